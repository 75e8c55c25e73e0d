import Derived.Test.YtjnpjkfliochbaaGreatEngD
set_option linter.unusedVariables false
set_option linter.unusedSimpArgs false
set_option linter.unusedSectionVars false
namespace Go.Tm
open MemLike Eng
set_option linter.unusedSectionVars false
set_option linter.unusedVariables false
section
variable {l:Lay} (hl:l.Ok) {σ σ':M} {par rt:Int→Int}
structure CTo (l:Lay) (σ:M) (rt:Int→Int) (r:Int) (c:ClimbS):Prop where
 inv:CInv l σ c
 to:if c.top then c.node=r else rt c.node=r
include hl
theorem SeenF.rt_par (hS:SeenF l σ par rt) {x:Int} (hx:V0 l x):(par x=0→rt x=x)∧(par x≠0→V0 l (par x)∧rt (par x)=rt x):=by
 obtain ⟨h,_,u⟩:=hS.up x hx
 constructor
 ·intro h0; exact (u.uniq (.top hx h0)).2
 ·intro h0
  obtain ⟨r,hr⟩:∃ r,rt x=r:=⟨_,rfl⟩
  rw [hr] at u ⊢
  cases u with
  | top _ h1=>exact absurd h1 h0
  | step _ _ hr =>
   have hp:=hr.first
   obtain ⟨h',_,u'⟩:=hS.up _ hp
   exact ⟨hp,(u'.uniq hr).2⟩
theorem SeenF.rt_v0 (hS:SeenF l σ par rt) {x:Int} (hx:V0 l x):V0 l (rt x)∧par (rt x)=0∧rt (rt x)=rt x:=by
 obtain ⟨h,_,u⟩:=hS.up x hx
 have:=u.last
 exact ⟨this.1,this.2,(hS.rt_par hl this.1).1 this.2⟩
theorem CTo.stp (hS:SeenF l σ par rt) {r:Int} {c:ClimbS} (h:CTo l σ rt r c) (hb:0≤c.step∧c.step≤1000000000) :
  ((c.stp l σ).done=false∧CTo l σ rt r (c.stp l σ)∧(c.stp l σ).step=c.step+1)∨((c.stp l σ).done=true∧(c.stp l σ).node=r∧(c.stp l σ).version=zaY l σ (l.field r 1)∧(c.stp l σ).step=c.step+1):=by
 obtain ⟨hI,ht⟩:=h
 rcases zfw hl hS hI (fun _=>hI.v0) with ⟨h1,h2⟩ | ⟨hh,h1,h2,h3,h4,h5,h6⟩
 ·have e:=zgs hl hI hb h1
  dsimp only at e
  by_cases htop:c.top=true
  ·rw [if_pos htop] at e ht
   right; rw [e]
   exact ⟨rfl,ht,by show (c.look.step l σ).value=_; rw [h2,hI.cell,if_pos htop,ht],rfl⟩
  ·rw [if_neg htop] at e ht
   have htf:c.top=false:=by simpa using htop
   have hv:(c.look.step l σ).value=par c.node:=by rw [h2,hI.cell,if_neg htop,hS.mn _ hI.v0]
   have hp:=hS.rt_par hl hI.v0
   by_cases h0:par c.node=0
   ·rw [if_neg (by rw [hv,h0]; omega)] at e
    left; rw [e]
    refine ⟨hI.nd,⟨⟨hI.nd,hI.v0,rfl,rfl,fun h=>by cases h⟩,?_⟩,rfl⟩
    show (if true=true then c.node=r else _)
    rw [if_pos rfl,←ht,hp.1 h0]
   ·obtain ⟨p1,p2⟩:=hp.2 h0
    have:=V0.nd0 hl p1
    rw [if_pos (by rw [hv]; omega),hv] at e
    left; rw [e]
    refine ⟨hI.nd,⟨⟨hI.nd,p1,by show _=l.field (par c.node) (if c.top then 1 else 2); rw [if_neg htop]; rfl,rfl,fun h=>by cases h⟩,?_⟩,rfl⟩
    show (if c.top=true then _ else rt (par c.node)=r)
    rw [if_neg htop,p2,ht]
 ·have e:=zgr hl hI hb h1
  left; rw [e]
  exact ⟨hI.nd,⟨⟨hI.nd,hI.v0,h2.trans hI.cell,h1,fun _=>⟨h5,by rw [h2]; exact h6⟩⟩,ht⟩,rfl⟩
theorem CTo.start (hS:SeenF l σ par rt) {v:Int} (hv:0≤v∧v<l.V):CTo l σ rt (rt (l.vertex 0 v)) (za4 l v):=by
 obtain ⟨h1,h2⟩:=zbi hl (σ:=σ) hv
 exact ⟨h1,rfl⟩
omit hl
structure Alike (l:Lay) (σ σ':M):Prop where
 wd:∀ x f,V0 l x→(f=1∨f=2)→gf l σ' x f=gf l σ x f
 st:∀ t:Int,1≤t∧t≤l.T→get σ' (l.state t)=get σ (l.state t)
theorem Alike.symm (h:Alike l σ σ'):Alike l σ' σ:=⟨fun x f hx hf=>(h.wd x f hx hf).symm,fun t ht=>(h.st t ht).symm⟩
theorem Alike.refl:Alike l σ σ:=⟨fun _ _ _ _=>rfl,fun _ _=>rfl⟩
theorem Alike.trans {σ'':M} (h:Alike l σ σ') (h':Alike l σ' σ''):Alike l σ σ'':=⟨fun x f hx hf=>(h'.wd x f hx hf).trans (h.wd x f hx hf),fun t ht=>(h'.st t ht).trans (h.st t ht)⟩
theorem Alike.means (h:Alike l σ σ') (hS:SeenF l σ par rt) {x f:Int} (hx:V0 l x) (hf:f=1∨f=2):zaY l σ' (l.field x f)=zaY l σ (l.field x f):=by
 have e:=h.wd x f hx hf
 have hw:=hS.word x f hx hf
 unfold gf at e hw
 unfold zaY
 dsimp only
 rw [e]
 split
 ·rfl
 ·next hc =>
  have:¬((zaf (get σ (l.field x f))).1.thread=0):=fun h0=>hc (.inr h0)
  rw [h.st _ (by omega)]
theorem Alike.seen (h:Alike l σ σ') (hS:SeenF l σ par rt):SeenF l σ' par rt :=
 ⟨fun x f hx hf=>by rw [h.wd x f hx hf]; exact hS.word x f hx hf,fun x hx=>by rw [h.means hS hx (.inr rfl)]; exact hS.mn x hx,hS.up⟩
theorem Alike.cinv (h:Alike l σ σ') (hS:SeenF l σ par rt) {c:ClimbS} (hI:CInv l σ c):CInv l σ' c:=by
 have e:=h.means hS hI.v0 (f:=if c.top then 1 else 2) (by cases c.top<;>simp)
 exact ⟨hI.nd,hI.v0,hI.cell,hI.ld,fun hh=>by
  obtain ⟨h1,h2⟩:=hI.half hh
  refine ⟨h1,?_⟩
  rw [h.st _ h1,h2,hI.cell,e]⟩
theorem Alike.cto (h:Alike l σ σ') (hS:SeenF l σ par rt) {r:Int} {c:ClimbS} (hI:CTo l σ rt r c):CTo l σ' rt r c:=⟨h.cinv hS hI.inv,hI.to⟩
theorem Alike.stp (h:Alike l σ σ') (hS:SeenF l σ par rt) {c:ClimbS} (hI:CInv l σ c):c.stp l σ'=c.stp l σ:=by
 have e:get σ' (c.look.at l)=get σ (c.look.at l):=by
  unfold LookS.at
  split
  ·next hh=>exact h.st _ (hI.half hh).1
  ·rw [hI.cell]; exact h.wd c.node _ hI.v0 (by cases c.top<;>simp)
 unfold ClimbS.stp LookS.step
 rw [e]
end
end Go.Tm
namespace Go.Tm
open MemLike Eng
set_option linter.unusedSectionVars false
set_option linter.unusedVariables false
open Classical in
noncomputable def upH (l:Lay) (par rt:Int→Int) (x:Int):Nat:=if h:∃ h:Nat,(h:Int)≤l.nodes∧Up par (V0 l) h x (rt x) then Classical.choose h else 0
noncomputable def crem (l:Lay) (par rt:Int→Int) (c:ClimbS):Nat:=if c.top then (if c.look.half then 1 else 2) else 2 * upH l par rt c.node+(if c.look.half then 1 else 2)
section
variable {l:Lay} (hl:l.Ok) {σ σ':M} {par rt:Int→Int}
structure CGo (l:Lay) (σ:M) (par rt:Int→Int) (r:Int) (c:ClimbS):Prop where
 to:CTo l σ rt r c
 bd:0≤c.step∧c.step+crem l par rt c≤2 * l.nodes+2
theorem zgw {c:ClimbS}:1≤crem l par rt c:=by unfold crem; split<;>split<;>omega
theorem Alike.cgo (h:Alike l σ σ') (hS:SeenF l σ par rt) {r:Int} {c:ClimbS} (hI:CGo l σ par rt r c):CGo l σ' par rt r c:=⟨h.cto hS hI.to,hI.bd⟩
include hl
theorem SeenF.upH (hS:SeenF l σ par rt) {x:Int} (hx:V0 l x):(upH l par rt x:Int)≤l.nodes∧Up par (V0 l) (Go.Tm.upH l par rt x) x (rt x):=by
 have h:=hS.up x hx
 unfold Go.Tm.upH
 rw [dif_pos h]
 exact Classical.choose_spec h
theorem SeenF.upH_par (hS:SeenF l σ par rt) {x:Int} (hx:V0 l x) (h0:par x≠0):Go.Tm.upH l par rt x=Go.Tm.upH l par rt (par x)+1:=by
 have h1:=(hS.upH hl hx).2
 obtain ⟨p1,p2⟩:=(hS.rt_par hl hx).2 h0
 have h2:=(hS.upH hl p1).2
 rw [p2] at h2
 exact (h1.uniq (.step hx h0 h2)).1
theorem zli (hS:SeenF l σ par rt) {c:ClimbS} (hI:CInv l σ c) (hb:0≤c.step∧c.step≤1000000000) (g1:(c.stp l σ).done=false):crem l par rt (c.stp l σ)+1≤crem l par rt c:=by
 rcases zfw hl hS hI (fun _=>hI.v0) with ⟨h1,h2⟩ | ⟨hh,h1,h2,h3,h4,h5,h6⟩
 ·have e:=zgs hl hI hb h1
  dsimp only at e
  by_cases htop:c.top=true
  ·rw [if_pos htop] at e; rw [e] at g1; cases g1
  ·rw [if_neg htop] at e
   have htf:c.top=false:=by simpa using htop
   have hv:(c.look.step l σ).value=par c.node:=by rw [h2,hI.cell,if_neg htop,hS.mn _ hI.v0]
   have hp:=hS.rt_par hl hI.v0
   have hu:=(hS.upH hl hI.v0).2.pos
   have hc:crem l par rt c=2 * upH l par rt c.node+(if c.look.half then 1 else 2):=by unfold crem; rw [if_neg htop]
   by_cases h0:par c.node=0
   ·rw [if_neg (by rw [hv,h0]; omega)] at e
    rw [e,hc]
    unfold crem
    rw [if_pos rfl,show ({ c with step:=c.step+1,look:=zdn (l.field c.node 1),top:=true }:ClimbS).look.half=false from rfl,if_neg (by decide)]
    split<;>omega
   ·obtain ⟨p1,p2⟩:=hp.2 h0
    have:=V0.nd0 hl p1
    have hu2:=hS.upH_par hl hI.v0 h0
    rw [if_pos (by rw [hv]; omega),hv] at e
    rw [e,hc]
    unfold crem
    rw [if_neg htop,show ({ c with step:=c.step+1,node:=par c.node,look:=zdn (l.field (par c.node) 2) }:ClimbS).look.half=false from rfl,if_neg (by decide)]
    show 2 * upH l par rt (par c.node)+2+1≤_
    split<;>omega
 ·have e:=zgr hl hI hb h1
  rw [e]
  unfold crem
  show (if c.top=true then (if (c.look.step l σ).half=true then 1 else 2) else 2 * upH l par rt c.node+(if (c.look.step l σ).half=true then 1 else 2))+1≤_
  rw [h3,hh]
  split<;>simp
theorem CGo.stp (hS:SeenF l σ par rt) {r:Int} {c:ClimbS} (h:CGo l σ par rt r c) :
  ((c.stp l σ).done=false∧CGo l σ par rt r (c.stp l σ)∧crem l par rt (c.stp l σ)+1≤crem l par rt c)∨((c.stp l σ).done=true∧(c.stp l σ).node=r∧(c.stp l σ).version=zaY l σ (l.field r 1)):=by
 have hn:=za0 hl
 obtain ⟨hto,hbd⟩:=h
 have hb:0≤c.step∧c.step≤1000000000:=by omega
 refine Or.elim (CTo.stp hl hS hto hb) (fun ⟨g1,g2,g3⟩=>.inl ?_) (fun ⟨g1,g2,g3,g4⟩=>.inr ⟨g1,g2,g3⟩)
 have key:=zli hl hS hto.inv hb g1
 exact ⟨g1,⟨g2,by omega⟩,key⟩
theorem CGo.start (hS:SeenF l σ par rt) {v:Int} (hv:0≤v∧v<l.V):CGo l σ par rt (rt (l.vertex 0 v)) (za4 l v)∧crem l par rt (za4 l v)=2 * upH l par rt (l.vertex 0 v)+2:=by
 have h2:=(zbi hl (σ:=σ) hv).2
 have hu:=(hS.upH hl h2).1
 have e:crem l par rt (za4 l v)=2 * upH l par rt (l.vertex 0 v)+2:=rfl
 exact ⟨⟨CTo.start hl hS hv,by show (0:Int)≤0∧0+_≤_; rw [e]; omega⟩,e⟩
abbrev lkF (l:Lay) (σ:M) (x:Int):Int:=gf l σ x 0
omit hl in
theorem zgq {a b:Int}:(zca a b).size=if a=b then 1 else 2:=by unfold zca; split<;>rfl
omit hl in
theorem zfc {a b:Int} {k:Nat} (h:k<(zca a b).size):(zca a b)[k]! =a∨(zca a b)[k]! =b:=by
 unfold zca at *
 split at h
 ·have:k=0:=by simpa using h
  subst this; rename_i hc; rw [if_pos hc]; exact .inl rfl
 ·rename_i hc; rw [if_neg hc]
  have:k=0∨k=1:=by simp at h; omega
  rcases this with rfl | rfl
  ·show min a b=a∨min a b=b; omega
  ·show max a b=a∨max a b=b; omega
omit hl in
theorem zox {a b:Int} (h:1<(zca a b).size):(zca a b)[0]!<(zca a b)[1]!:=by
 unfold zca at *
 split at h
 ·simp at h
 ·rename_i hc; rw [if_neg hc]; show min a b<max a b; omega
structure Held (l:Lay) (σ:M) (w:Array Int) (i:Int) (h:Array Int):Prop where
 le:h.size≤w.size
 eq:∀ k,k<h.size→h[k]! =w[k]!
 lk:∀ k,k<h.size→lkF l σ h[k]! =i
structure TInv (l:Lay) (σ:M) (par rt:Int→Int) (t:TakeS):Prop where
 uv:(0≤t.u∧t.u<l.V)∧0≤t.v∧t.v<l.V
 th:1≤t.thread∧t.thread≤l.T
 at_:0≤t.at_∧t.at_≤4
 held:Held l σ (zca (rt (l.vertex 0 t.u)) (rt (l.vertex 0 t.v))) t.thread t.held
 h0:t.at_=0→t.held.size=0
 h1:t.at_=1→t.held.size<(zca (rt (l.vertex 0 t.u)) (rt (l.vertex 0 t.v))).size∧t.want=zca (rt (l.vertex 0 t.u)) (rt (l.vertex 0 t.v))∧t.which=0∧t.climb=za4 l t.u
 h2:t.at_=2∨t.at_=4→t.held=zca (rt (l.vertex 0 t.u)) (rt (l.vertex 0 t.v))∧t.want=zca (rt (l.vertex 0 t.u)) (rt (l.vertex 0 t.v))
 h3:t.at_=3→0<t.held.size
 cl:t.at_=0∨t.at_=2→(t.which=0∧CGo l σ par rt (rt (l.vertex 0 t.u)) t.climb)∨(t.which=1∧t.f0=rt (l.vertex 0 t.u)∧CGo l σ par rt (rt (l.vertex 0 t.v)) t.climb)
 tr:0≤t.tries∧t.tries≤1000000
noncomputable def trem (l:Lay) (par rt:Int→Int) (t:TakeS):Nat:=crem l par rt t.climb+if t.which=0 then 2 * upH l par rt (l.vertex 0 t.v)+2 else 0
theorem zgK (hS:SeenF l σ par rt) {v:Int} (hv:0≤v∧v<l.V):V0 l (rt (l.vertex 0 v)):=(hS.rt_v0 hl (zbi hl (σ:=σ) hv).2).1
theorem TInv.climbs (hS:SeenF l σ par rt) {t:TakeS} (h:TInv l σ par rt t) (ha:t.at_=0∨t.at_=2) :
  (∃ c w f,t.climbs l σ=({ t with climb:=c,which:=w,f0:=f },false)∧TInv l σ par rt { t with climb:=c,which:=w,f0:=f }∧trem l par rt { t with climb:=c,which:=w,f0:=f }+1≤trem l par rt t) ∨
  t.climbs l σ=({ t with climb:=za4 l t.u,f1:=rt (l.vertex 0 t.v),which:=0 },true)∧t.f0=rt (l.vertex 0 t.u):=by
 have hv:=CGo.start hl hS h.uv.2
 unfold TakeS.climbs
 dsimp only
 rcases h.cl ha with ⟨w0,hg⟩ | ⟨w1,f0,hg⟩
 ·rcases CGo.stp hl hS hg with ⟨g1,g2,g3⟩ | ⟨g1,g2,g3⟩
  ·rw [if_pos g1]
   refine .inl ⟨t.climb.stp l σ,t.which,t.f0,rfl,⟨h.uv,h.th,h.at_,h.held,h.h0,fun h1=>by have h1:t.at_=1:=h1; omega,h.h2,h.h3,fun _=>.inl ⟨w0,g2⟩,h.tr⟩,?_⟩
   unfold trem; dsimp only; omega
  ·rw [if_neg (by rw [g1]; decide),if_pos w0]
   refine .inl ⟨za4 l t.v,1,(t.climb.stp l σ).root,rfl,⟨h.uv,h.th,h.at_,h.held,h.h0,fun h1=>by have h1:t.at_=1:=h1; omega,h.h2,h.h3,fun _=>.inr ⟨rfl,?_,hv.1⟩,h.tr⟩,?_⟩
   ·show (t.climb.stp l σ).root=_
    unfold ClimbS.root; rw [if_pos g1,g2]
   ·unfold trem; dsimp only; rw [if_neg (by decide),if_pos w0,hv.2]; have:=zgw (l:=l) (par:=par) (rt:=rt) (c:=t.climb); omega
 ·rcases CGo.stp hl hS hg with ⟨g1,g2,g3⟩ | ⟨g1,g2,g3⟩
  ·rw [if_pos g1]
   refine .inl ⟨t.climb.stp l σ,t.which,t.f0,rfl,⟨h.uv,h.th,h.at_,h.held,h.h0,fun h1=>by have h1:t.at_=1:=h1; omega,h.h2,h.h3,fun _=>.inr ⟨w1,f0,g2⟩,h.tr⟩,?_⟩
   unfold trem; dsimp only; omega
  ·rw [if_neg (by rw [g1]; decide),if_neg (by omega)]
   refine .inr ⟨?_,f0⟩
   unfold ClimbS.root; rw [if_pos g1,g2]
theorem TInv.begin (hS:SeenF l σ par rt) {t:TakeS} (uv:(0≤t.u∧t.u<l.V)∧0≤t.v∧t.v<l.V) (th:1≤t.thread∧t.thread≤l.T) (h0:t.held.size=0) (tr:0≤t.tries∧t.tries≤999999):TInv l σ par rt (t.begin l):=by
 have e:IntKind.i64.wrap (t.tries+1)=t.tries+1:=za9 (by omega)
 unfold TakeS.begin
 rw [e]
 exact ⟨uv,th,by show (0:Int)≤0∧(0:Int)≤4; decide,⟨by show t.held.size≤_; omega,fun k hk=>by have hk:k<t.held.size:=hk; omega,fun k hk=>by have hk:k<t.held.size:=hk; omega⟩,fun _=>h0,fun h=>(by cases h),fun h=>(by rcases h with h | h<;>cases h),fun h=>(by cases h),fun _=>.inl ⟨rfl,(CGo.start hl hS uv.1).1⟩,by show 0≤t.tries+1∧t.tries+1≤1000000; omega⟩
abbrev stL (l:Lay) (σ:M) (x v:Int):M:=st σ (l.field x 0) v
theorem zi6 (hz:σ.size=l.cells) {x v:Int} (hx:l.nd x) (hv:0≤v∧v<18446744073709551616) {y:Int} (hy:l.nd y):lkF l (stL l σ x v) y=if y=x then v else lkF l σ y:=by
 unfold lkF stL gf
 rw [zba hl hz hx (by decide) hv]
 by_cases h:y=x
 ·rw [if_pos (by rw [h]),if_pos h]
 ·rw [if_neg fun e=>h ((zaw hl hy (by decide) hx (by decide)).1 e).1,if_neg h]
theorem zdG {x v:Int} (hx:l.nd x):Alike l σ (stL l σ x v) :=
 ⟨fun y f hy hf=>zaO fun e=>by have:=(zaw hl hy.1 (by omega) hx (by decide)).1 e; omega,fun t ht=>zaO fun e=>by
  have:=za5 hl hx (f:=0) (by decide); have hb:=zcc hl; have hh:l.heads=l.T+1+l.S * 7:=rfl
  rw [zcq hl ht] at e; omega⟩
theorem TInv.other {t:TakeS} (h:TInv l σ par rt t) (hz:σ.size=l.cells) (hS:SeenF l σ par rt) {x v:Int} (hx:l.nd x) (hv:0≤v∧v<18446744073709551616) (hn:lkF l σ x≠t.thread):TInv l (stL l σ x v) par rt t:=by
 have hA:=zdG hl (σ:=σ) (v:=v) hx
 refine ⟨h.uv,h.th,h.at_,⟨h.held.le,h.held.eq,fun k hk=>?_⟩,h.h0,h.h1,h.h2,h.h3,fun ha=>?_,h.tr⟩
 ·have hk':=h.held.lk k hk
  have hm:=zfc (show k<(zca (rt (l.vertex 0 t.u)) (rt (l.vertex 0 t.v))).size by have:=h.held.le; omega)
  rw [←h.held.eq k hk] at hm
  have hnd:l.nd t.held[k]!:=by rcases hm with e | e<;>rw [e]; exact (zgK hl hS h.uv.1).1; exact (zgK hl hS h.uv.2).1
  rw [zi6 hl hz hx hv hnd,if_neg (fun e=>hn (by rw [←e]; exact hk'))]
  exact hk'
 ·rcases h.cl ha with ⟨w,hg⟩ | ⟨w,f,hg⟩
  ·exact .inl ⟨w,hA.cgo hS hg⟩
  ·exact .inr ⟨w,f,hA.cgo hS hg⟩
theorem TInv.step0 (hS:SeenF l σ par rt) {t:TakeS} (h:TInv l σ par rt t) (ha:t.at_=0):∃ t',t.stp l σ=(t',σ)∧TInv l σ par rt t'∧t'.thread=t.thread∧t'.u=t.u∧t'.v=t.v∧t'.held=t.held∧t'.tries=t.tries∧((t'.at_=0∧trem l par rt t'+1≤trem l par rt t)∨t'.at_=1):=by
 unfold TakeS.stp
 rw [if_pos ha]
 dsimp only
 rcases h.climbs hl hS (.inl ha) with ⟨c,w,f,e,hI,hr⟩ | ⟨e,hf⟩
 ·rw [e]
  exact ⟨_,rfl,hI,rfl,rfl,rfl,rfl,rfl,.inl ⟨ha,hr⟩⟩
 ·rw [e]
  refine ⟨_,rfl,⟨h.uv,h.th,by show (0:Int)≤1∧(1:Int)≤4; decide,h.held,fun h=>(by cases h),fun _=>⟨?_,?_,rfl,rfl⟩,fun h=>(by rcases h with h | h<;>cases h),fun h=>(by cases h),fun h=>(by rcases h with h | h<;>cases h),h.tr⟩,rfl,rfl,rfl,rfl,rfl,.inr rfl⟩
  ·show t.held.size<(zca (rt (l.vertex 0 t.u)) (rt (l.vertex 0 t.v))).size
   rw [h.h0 ha,zgq]; split<;>omega
  ·show zca t.f0 (rt (l.vertex 0 t.v))=zca (rt (l.vertex 0 t.u)) (rt (l.vertex 0 t.v))
   rw [hf]
theorem TInv.step1 (hS : SeenF l σ par rt) (hz : σ.size = l.cells) {t : TakeS} (h : TInv l σ par rt t) (ha : t.at_ = 1) (htr : t.tries ≤ 999999) :
    ∃ x, x = (zca (rt (l.vertex 0 t.u)) (rt (l.vertex 0 t.v)))[t.held.size]! ∧ V0 l x ∧ rt x = x ∧
      ((lkF l σ x = 0 ∧ ∃ t', t.stp l σ = (t', stL l σ x t.thread) ∧ TInv l (stL l σ x t.thread) par rt t' ∧ t'.thread = t.thread ∧ t'.u = t.u ∧ t'.v = t.v ∧ t'.held = t.held ++ #[x] ∧ t'.tries = t.tries ∧ t'.climb = za4 l t.u ∧ t'.which = 0 ∧ t'.at_ = if t.held.size + 1 = (zca (rt (l.vertex 0 t.u)) (rt (l.vertex 0 t.v))).size then 2 else 1) ∨
       (lkF l σ x ≠ 0 ∧ ∃ t', t.stp l σ = (t', σ) ∧ TInv l σ par rt t' ∧ t'.thread = t.thread ∧ t'.u = t.u ∧ t'.v = t.v ∧ t'.held = t.held ∧ t'.tries ≤ t.tries + 1 ∧ ((t.held.size = 0 ∧ t'.at_ = 0) ∨ (t.held.size ≠ 0 ∧ t'.at_ = 3)))) := by
  obtain ⟨h1, h2, h3, h4⟩ := h.h1 ha
  obtain ⟨w, hw⟩ : ∃ w, zca (rt (l.vertex 0 t.u)) (rt (l.vertex 0 t.v)) = w := ⟨_, rfl⟩
  have hm := zfc h1
  have hcl := h.held
  have hs2 : w.size ≤ 2 := by rw [← hw, zgq]; split <;> omega
  rw [hw] at h1 h2 hm hcl
  have hxv : V0 l w[t.held.size]! ∧ rt w[t.held.size]! = w[t.held.size]! := by
    have hA := zbi hl (σ := σ) h.uv.1; have hB := zbi hl (σ := σ) h.uv.2
    rcases hm with e | e <;> rw [e]
    · exact ⟨(hS.rt_v0 hl hA.2).1, (hS.rt_v0 hl hA.2).2.2⟩
    · exact ⟨(hS.rt_v0 hl hB.2).1, (hS.rt_v0 hl hB.2).2.2⟩
  have hT : (l.T : Int) ≤ 8 := by have := hl.2.2.2.2; omega
  have hth := h.th
  have hfb := za5 hl hxv.1.1 (f := 0) (by decide)
  refine ⟨w[t.held.size]!, by rw [hw], hxv.1, hxv.2, ?_⟩
  unfold TakeS.stp
  rw [if_neg (by omega), if_pos ha]
  dsimp only
  rw [h2]
  by_cases h0 : lkF l σ w[t.held.size]! = 0
  · rw [if_pos ⟨h0, hfb.2.1⟩]
    left
    have hA := zdG hl (σ := σ) (v := t.thread) hxv.1.1
    have hsz : (t.held ++ #[w[t.held.size]!]).size = t.held.size + 1 := by simp
    refine ⟨h0, _, rfl, ⟨h.uv, h.th, by dsimp only; split <;> decide, ?_, ?_, ?_, ?_, ?_, ?_, h.tr⟩, rfl, rfl, rfl, rfl, rfl, h4, h3, by dsimp only; rw [hsz, hw]⟩
    · show Held l (stL l σ w[t.held.size]! t.thread) (zca _ _) t.thread (t.held ++ #[w[t.held.size]!])
      rw [hw]
      refine ⟨by rw [hsz]; omega, fun k hk => ?_, fun k hk => ?_⟩
      · by_cases hk' : k < t.held.size
        · rw [get!_app hk']; exact hcl.eq k hk'
        · obtain rfl : k = t.held.size := by omega
          simp
      · by_cases hk' : k < t.held.size
        · rw [get!_app hk']
          have hl1 := hcl.lk k hk'
          have hnd : l.nd t.held[k]! := by
            have hm2 := zfc (show k < (zca (rt (l.vertex 0 t.u)) (rt (l.vertex 0 t.v))).size by rw [hw]; omega)
            rw [hw, ← hcl.eq k hk'] at hm2
            rcases hm2 with e | e <;> rw [e]
            · exact (zgK hl hS h.uv.1).1
            · exact (zgK hl hS h.uv.2).1
          rw [zi6 hl hz hxv.1.1 (by omega) hnd]
          split
          · rfl
          · exact hl1
        · obtain rfl : k = t.held.size := by omega
          have : (t.held ++ #[w[t.held.size]!])[t.held.size]! = w[t.held.size]! := by simp
          rw [this, zi6 hl hz hxv.1.1 (by omega) hxv.1.1, if_pos rfl]
    · dsimp only
      intro hh; split at hh <;> cases hh
    · dsimp only
      intro hh
      split at hh
      · cases hh
      · next hne =>
        rw [hsz] at hne ⊢
        rw [hw]; exact ⟨by omega, rfl, h3, h4⟩
    · dsimp only
      intro hh
      split at hh
      · next he =>
        rw [hw]
        refine ⟨?_, rfl⟩
        refine Array.ext he fun k hk1 hk2 => ?_
        by_cases hk' : k < t.held.size
        · have := hcl.eq k hk'
          rw [Array.getElem_append_left hk']
          rw [getElem!_pos t.held k hk', getElem!_pos w k hk2] at this; exact this
        · have : k = t.held.size := by rw [hsz] at hk1; omega
          subst this
          rw [Array.getElem_append_right (Nat.le_refl _)]; simp [getElem!_pos w t.held.size hk2]
      · rcases hh with hh | hh <;> cases hh
    · dsimp only
      intro hh; split at hh <;> cases hh
    · dsimp only
      intro hh
      refine .inl ⟨h3, ?_⟩
      show CGo l (stL l σ w[t.held.size]! t.thread) par rt (rt (l.vertex 0 t.u)) t.climb
      rw [h4]; exact hA.cgo hS (CGo.start hl hS h.uv.1).1
  · rw [if_neg fun c => h0 c.1]
    right
    unfold TakeS.leave
    by_cases hh : t.held.size = 0
    · rw [if_pos hh]
      have hB := TInv.begin hl hS (t := { t with at_ := 3 }) h.uv h.th hh ⟨h.tr.1, htr⟩
      refine ⟨h0, _, rfl, hB, rfl, rfl, rfl, rfl, ?_, .inl ⟨hh, rfl⟩⟩
      show IntKind.i64.wrap (t.tries + 1) ≤ _
      have := h.tr
      rw [za9 (by omega)]; omega
    · rw [if_neg hh]
      refine ⟨h0, _, rfl, ⟨h.uv, h.th, by show (0 : Int) ≤ 3 ∧ (3 : Int) ≤ 4; decide, h.held, fun h => (by cases h), fun h => (by cases h), fun h => (by rcases h with h | h <;> cases h), fun _ => by show 0 < t.held.size; omega, fun h => (by rcases h with h | h <;> cases h), h.tr⟩, rfl, rfl, rfl, rfl, by show t.tries ≤ _; omega, .inr ⟨hh, rfl⟩⟩
theorem TInv.step2 (hS:SeenF l σ par rt) {t:TakeS} (h:TInv l σ par rt t) (ha:t.at_=2):∃ t',t.stp l σ=(t',σ)∧TInv l σ par rt t'∧t'.thread=t.thread∧t'.u=t.u∧t'.v=t.v∧t'.held=t.held∧t'.tries=t.tries∧((t'.at_=2∧trem l par rt t'+1≤trem l par rt t)∨t'.at_=4):=by
 unfold TakeS.stp
 rw [if_neg (by omega),if_neg (by omega),if_pos ha]
 dsimp only
 rcases h.climbs hl hS (.inr ha) with ⟨c,w,f,e,hI,hr⟩ | ⟨e,hf⟩
 ·rw [e]
  exact ⟨_,rfl,hI,rfl,rfl,rfl,rfl,rfl,.inl ⟨ha,hr⟩⟩
 ·rw [e]
  have hw:=h.h2 (.inl ha)
  dsimp only
  rw [if_pos rfl,hf,if_pos hw.2.symm]
  exact ⟨_,rfl,⟨h.uv,h.th,by show (0:Int)≤4∧(4:Int)≤4; decide,h.held,fun h=>(by cases h),fun h=>(by cases h),fun _=>hw,fun h=>(by cases h),fun h=>(by rcases h with h | h<;>cases h),h.tr⟩,rfl,rfl,rfl,rfl,rfl,.inr rfl⟩
theorem TInv.step3 (hS:SeenF l σ par rt) (hz:σ.size=l.cells) {t:TakeS} (h:TInv l σ par rt t) (ha:t.at_=3) (htr:t.tries≤999999) :
  ∃ x t',x=t.held[t.held.size - 1]!∧V0 l x∧rt x=x∧lkF l σ x=t.thread∧t.stp l σ=(t',stL l σ x 0)∧TInv l (stL l σ x 0) par rt t'∧t'.thread=t.thread∧t'.u=t.u∧t'.v=t.v∧t'.held=t.held.extract 0 (t.held.size - 1)∧t'.tries≤t.tries+1∧(t'.held.size=0∧t'.at_=0∨t'.held.size≠0∧t'.at_=3):=by
 have h3:=h.h3 ha
 obtain ⟨w,hw⟩:∃ w,zca (rt (l.vertex 0 t.u)) (rt (l.vertex 0 t.v))=w:=⟨_,rfl⟩
 have hcl:=h.held
 have hnd:∀ k,k<t.held.size→V0 l t.held[k]!∧rt t.held[k]! =t.held[k]!:=fun k hk=>by
  have hm2:=zfc (show k<(zca (rt (l.vertex 0 t.u)) (rt (l.vertex 0 t.v))).size by have:=hcl.le; omega)
  have hA:=zbi hl (σ:=σ) h.uv.1; have hB:=zbi hl (σ:=σ) h.uv.2
  rw [←hcl.eq k hk] at hm2
  rcases hm2 with e | e<;>rw [e]
  ·exact ⟨(hS.rt_v0 hl hA.2).1,(hS.rt_v0 hl hA.2).2.2⟩
  ·exact ⟨(hS.rt_v0 hl hB.2).1,(hS.rt_v0 hl hB.2).2.2⟩
 obtain ⟨x,hx⟩:∃ x,t.held[t.held.size - 1]! =x:=⟨_,rfl⟩
 have hxv:=hnd (t.held.size - 1) (by omega)
 have hxl:=hcl.lk (t.held.size - 1) (by omega)
 rw [hx] at hxv hxl
 have hA:=zdG hl (σ:=σ) (v:=0) hxv.1.1
 have hes:(t.held.extract 0 (t.held.size - 1)).size=t.held.size - 1:=by simp
 have heg:∀ k,k<t.held.size - 1→(t.held.extract 0 (t.held.size - 1))[k]! =t.held[k]!:=fun k hk=>by
  rw [getElem!_pos _ k (by rw [hes]; exact hk),getElem!_pos t.held k (by omega)]; simp
 have hdis:∀ k,k<t.held.size - 1→t.held[k]!≠x:=fun k hk e=>by
  rw [←hx,hcl.eq k (by omega),hcl.eq (t.held.size - 1) (by omega)] at e
  have h2:(zca (rt (l.vertex 0 t.u)) (rt (l.vertex 0 t.v))).size≤2:=by rw [zgq]; split<;>omega
  have hle:=hcl.le
  have hlt:=zox (a:=rt (l.vertex 0 t.u)) (b:=rt (l.vertex 0 t.v)) (by omega)
  have:k=0:=by omega
  subst this
  rw [show t.held.size - 1=1 by omega] at e
  omega
 have hH:Held l (stL l σ x 0) (zca (rt (l.vertex 0 t.u)) (rt (l.vertex 0 t.v))) t.thread (t.held.extract 0 (t.held.size - 1)):=by
  refine ⟨by rw [hes]; have:=hcl.le; omega,fun k hk=>by rw [hes] at hk; rw [heg k hk]; exact hcl.eq k (by omega),fun k hk=>?_⟩
  rw [hes] at hk
  rw [heg k hk,zi6 hl hz hxv.1.1 (by decide) (hnd k (by omega)).1.1,if_neg (hdis k hk)]
  exact hcl.lk k (by omega)
 unfold TakeS.stp
 rw [if_neg (by omega),if_neg (by omega),if_neg (by omega),if_pos ha]
 dsimp only
 rw [hx]
 by_cases hh:(t.held.extract 0 (t.held.size - 1)).size=0
 ·rw [if_pos hh]
  have hB:=TInv.begin hl (hA.seen hS) (t:={ t with held:=t.held.extract 0 (t.held.size - 1) }) h.uv h.th hh ⟨h.tr.1,htr⟩
  refine ⟨x,_,rfl,hxv.1,hxv.2,hxl,rfl,hB,rfl,rfl,rfl,rfl,?_,.inl ⟨hh,rfl⟩⟩
  show IntKind.i64.wrap (t.tries+1)≤_
  have:=h.tr
  rw [za9 (by omega)]; omega
 ·rw [if_neg hh]
  exact ⟨x,_,rfl,hxv.1,hxv.2,hxl,rfl,⟨h.uv,h.th,h.at_,hH,fun h=>by have h:t.at_=0:=h; omega,fun h=>by have h:t.at_=1:=h; omega,fun h=>by have h:t.at_=2∨t.at_=4:=h; omega,fun _=>by show 0<(t.held.extract 0 (t.held.size - 1)).size; omega,fun h=>by have h:t.at_=0∨t.at_=2:=h; omega,h.tr⟩,rfl,rfl,rfl,rfl,by show t.tries≤_; omega,.inr ⟨hh,ha⟩⟩
theorem TInv.step4 {t:TakeS} (ha:t.at_=4):t.stp l σ=(t,σ):=by
 unfold TakeS.stp
 rw [if_neg (by omega),if_neg (by omega),if_neg (by omega),if_neg (by omega)]
end
end Go.Tm
namespace Go.Tm
open MemLike Eng
set_option linter.unusedSectionVars false
set_option linter.unusedVariables false
section
variable {l:Lay} (hl:l.Ok) {σ σ':M} {par rt:Int→Int}
def zgj (l:Lay) (rt:Int→Int) (t:TakeS):Array Int:=zca (rt (l.vertex 0 t.u)) (rt (l.vertex 0 t.v))
def fstT (l:Lay) (rt:Int→Int) (t:TakeS):Int:=(zgj l rt t)[0]!
structure GL (l:Lay) (σ:M) (par rt:Int→Int) (n:Nat) (ts:Nat→TakeS) (ov:Nat→Bool):Prop where
 size:σ.size=l.cells
 seen:SeenF l σ par rt
 ti:∀ i,i<n→TInv l σ par rt (ts i)
 th:∀ i,i<n→(ts i).thread=(i:Int)+1
 sh:∀ i,i<n→ov i=false→(ts i).at_=3→(ts i).held.size<(zgj l rt (ts i)).size
 lk:∀ v:Int,0≤v∧v<l.V→lkF l σ (rt (l.vertex 0 v))=0∨∃ i k,i<n∧ov i=false∧k<(ts i).held.size∧(ts i).held[k]! =rt (l.vertex 0 v)
 hn:n≤l.T
def zmh (r p i:Nat):Nat:=r+if i<p then 1 else 0
structure Q2 (l:Lay) (par rt:Int→Int) (n r p K:Nat) (m:Int) (ts:Nat→TakeS) (ov:Nat→Bool):Prop where
 mx:∀ j,j<n→ov j=false→fstT l rt (ts j)≤m
 lv:∀ j,j<n→ov j=false→fstT l rt (ts j)=m→(ts j).at_=3→zmh r p j=0
 no:∀ j,j<n→ov j=false→(ts j).at_≠2∧(ts j).at_≠4
 wt:∃ a,a<n∧ov a=false∧fstT l rt (ts a)=m∧(((ts a).at_=1∧(ts a).held.size=1∧zmh r p a≤K+2)∨((ts a).at_=1∧(ts a).held.size=0∧zmh r p a≤K+1)∨((ts a).at_=0∧trem l par rt (ts a)+zmh r p a≤K)∨((ts a).at_=3∧zmh r p a=0))
def setT (ts:Nat→TakeS) (i:Nat) (t:TakeS):Nat→TakeS:=fun j=>if j=i then t else ts j
theorem zdd {ts:Nat→TakeS} {i:Nat} {t:TakeS}:setT ts i t i=t:=if_pos rfl
theorem zdY {ts:Nat→TakeS} {i j:Nat} {t:TakeS} (h:j≠i):setT ts i t j=ts j:=if_neg h
theorem zjH {t t':TakeS} (hu:t'.u=t.u) (hv:t'.v=t.v):zgj l rt t'=zgj l rt t:=by unfold zgj; rw [hu,hv]
include hl
theorem GL.step {n:Nat} {ts:Nat→TakeS} {ov:Nat→Bool} (h:GL l σ par rt n ts ov) {i:Nat} (hi:i<n) (ho:ov i=false) (htr:(ts i).tries≤999999) :
  ∃ t' σ',(ts i).stp l σ=(t',σ')∧GL l σ' par rt n (setT ts i t') ov∧t'.u=(ts i).u∧t'.v=(ts i).v∧t'.tries≤(ts i).tries+1∧Alike l σ σ' ∧
   ((ts i).at_=0→(t'.at_=0∧trem l par rt t'+1≤trem l par rt (ts i))∨(t'.at_=1∧t'.held.size=0)) ∧
   ((ts i).at_=1→(lkF l σ (zgj l rt (ts i))[(ts i).held.size]! =0∧t'.held.size=(ts i).held.size+1∧t'.at_=(if (ts i).held.size+1=(zgj l rt (ts i)).size then 2 else 1)) ∨
    (lkF l σ (zgj l rt (ts i))[(ts i).held.size]!≠0∧(((ts i).held.size=0∧t'.at_=0)∨((ts i).held.size≠0∧t'.at_=3)))) ∧
   ((ts i).at_=2→(t'.at_=2∧trem l par rt t'+1≤trem l par rt (ts i))∨t'.at_=4) ∧
   ((ts i).at_=3→t'.at_=0)∧((ts i).at_=4→t'=ts i):=by
 have hT:=h.ti i hi
 have hthi:=h.th i hi
 have hn8:(l.T:Int)≤8:=by have:=hl.2.2.2.2; omega
 have same:∀ {t':TakeS},TInv l σ par rt t'→t'.thread=(ts i).thread→t'.held=(ts i).held→(t'.at_=3→t'.held.size<(zgj l rt t').size)→GL l σ par rt n (setT ts i t') ov:=fun {t'} h1 h2 h3 h4=>by
  refine ⟨h.size,h.seen,fun j hj=>?_,fun j hj=>?_,fun j hj=>?_,fun v hv=>?_,h.hn⟩
  ·by_cases e:j=i
   ·subst e; rw [zdd]; exact h1
   ·rw [zdY e]; exact h.ti j hj
  ·by_cases e:j=i
   ·subst e; rw [zdd,h2]; exact hthi
   ·rw [zdY e]; exact h.th j hj
  ·by_cases e:j=i
   ·subst e; rw [zdd]; exact fun _=>h4
   ·rw [zdY e]; exact h.sh j hj
  ·rcases h.lk v hv with h0 | ⟨j,k,q1,q2,q3,q4⟩
   ·exact .inl h0
   ·refine .inr ⟨j,k,q1,q2,?_⟩
    by_cases e:j=i
    ·subst e; rw [zdd,h3]; exact ⟨q3,q4⟩
    ·rw [zdY e]; exact ⟨q3,q4⟩
 have stor:∀ {t':TakeS} {x v:Int},V0 l x→(lkF l σ x=0∨lkF l σ x=(ts i).thread)→(0≤v∧v<18446744073709551616)→TInv l (stL l σ x v) par rt t'→t'.thread=(ts i).thread→(t'.at_=3→t'.held.size<(zgj l rt t').size) →
   (∀ k,k<(ts i).held.size→(ts i).held[k]!≠x→∃ k',k'<t'.held.size∧t'.held[k']! =(ts i).held[k]!)→(v=0∨∃ k',k'<t'.held.size∧t'.held[k']! =x)→GL l (stL l σ x v) par rt n (setT ts i t') ov:=fun {t' x v} hx hlk hv h1 h2 h3 h4 h5=>by
  have hA:=zdG hl (σ:=σ) (v:=v) hx.1
  refine ⟨by rw [zaN]; exact h.size,hA.seen h.seen,fun j hj=>?_,fun j hj=>?_,fun j hj=>?_,fun u hu=>?_,h.hn⟩
  ·by_cases e:j=i
   ·subst e; rw [zdd]; exact h1
   ·rw [zdY e]
    refine (h.ti j hj).other hl h.size h.seen hx.1 hv ?_
    have:=h.th j hj
    rcases hlk with hlk | hlk<;>rw [hlk]<;>omega
  ·by_cases e:j=i
   ·subst e; rw [zdd,h2]; exact hthi
   ·rw [zdY e]; exact h.th j hj
  ·by_cases e:j=i
   ·subst e; rw [zdd]; exact fun _=>h3
   ·rw [zdY e]; exact h.sh j hj
  ·have hr:=zgK hl h.seen hu
   rw [zi6 hl h.size hx.1 hv hr.1]
   by_cases e:rt (l.vertex 0 u)=x
   ·rw [if_pos e]
    rcases h5 with h5 | ⟨k',k1,k2⟩
    ·exact .inl h5
    ·exact .inr ⟨i,k',hi,ho,by rw [zdd]; exact k1,by rw [zdd,k2,e]⟩
   ·rw [if_neg e]
    rcases h.lk u hu with h0 | ⟨j,k,q1,q2,q3,q4⟩
    ·exact .inl h0
    ·refine .inr ?_
     by_cases ej:j=i
     ·subst ej
      obtain ⟨k',k1,k2⟩:=h4 k q3 (by rw [q4]; exact e)
      exact ⟨j,k',q1,q2,by rw [zdd]; exact k1,by rw [zdd,k2,q4]⟩
     ·exact ⟨j,k,q1,q2,by rw [zdY ej]; exact q3,by rw [zdY ej]; exact q4⟩
 have hat:=hT.at_
 have cases5:(ts i).at_=0∨(ts i).at_=1∨(ts i).at_=2∨(ts i).at_=3∨(ts i).at_=4:=by omega
 rcases cases5 with ha | ha | ha | ha | ha
 ·obtain ⟨t',e,h1,h2,h3,h4,h5,h6,h7⟩:=hT.step0 hl h.seen ha
  refine ⟨t',σ,e,same h1 h2 h5 (fun h=>by omega),h3,h4,by omega,Alike.refl,fun _=>?_,fun h=>by omega,fun h=>by omega,fun h=>by omega,fun h=>by omega⟩
  rcases h7 with h7 | h7
  ·exact .inl h7
  ·exact .inr ⟨h7,by rw [h5]; exact hT.h0 ha⟩
 ·obtain ⟨x,hx,hxv,hxr,hc⟩:=hT.step1 hl h.seen h.size ha htr
  have hT1:=hT.h1 ha
  rcases hc with ⟨h0,t',e,h1,h2,h3,h4,h5,h6,_,_,h7⟩ | ⟨h0,t',e,h1,h2,h3,h4,h5,h6,h7⟩
  ·refine ⟨t',_,e,stor hxv (.inl h0) (by rw [hthi]; have:=h.hn; omega) h1 h2 (fun h=>by rw [h7] at h; split at h<;>cases h) (fun k hk hne=>⟨k,by rw [h5]; simp; omega,by rw [h5,get!_app hk]⟩) (.inr ⟨(ts i).held.size,by rw [h5]; simp,by rw [h5]; simp⟩),h3,h4,by omega,zdG hl hxv.1,fun h=>by omega,fun _=>.inl ⟨by show lkF l σ (zca _ _)[_]! =0; rw [←hx]; exact h0,by rw [h5]; simp,h7⟩,fun h=>by omega,fun h=>by omega,fun h=>by omega⟩
  ·refine ⟨t',σ,e,same h1 h2 h5 (fun h3'=>?_),h3,h4,h6,Alike.refl,fun h=>by omega,fun _=>.inr ⟨by show lkF l σ (zca _ _)[_]!≠0; rw [←hx]; exact h0,h7⟩,fun h=>by omega,fun h=>by omega,fun h=>by omega⟩
   rw [zjH h3 h4,h5]
   exact hT1.1
 ·obtain ⟨t',e,h1,h2,h3,h4,h5,h6,h7⟩:=hT.step2 hl h.seen ha
  exact ⟨t',σ,e,same h1 h2 h5 (fun h=>by omega),h3,h4,by omega,Alike.refl,fun h=>by omega,fun h=>by omega,fun _=>h7,fun h=>by omega,fun h=>by omega⟩
 ·obtain ⟨x,t',hx,hxv,hxr,hxl,e,h1,h2,h3,h4,h5,h6,h7⟩:=hT.step3 hl h.seen h.size ha htr
  have hsh:=h.sh i hi ho ha
  have hs2:(zgj l rt (ts i)).size≤2:=by unfold zgj; rw [zgq]; split<;>omega
  have h30:=hT.h3 ha
  have hz:t'.held.size=0:=by rw [h5]; simp; omega
  have ha':t'.at_=0:=by rcases h7 with h7 | h7; exact h7.2; exact absurd hz h7.1
  exact ⟨t',_,e,stor hxv (.inr hxl) (by decide) h1 h2 (fun h=>by omega) (fun k hk hne=>absurd (by rw [hx]; congr 1; omega) hne) (.inl rfl),h3,h4,h6,zdG hl hxv.1,fun h=>by omega,fun h=>by omega,fun h=>by omega,fun _=>ha',fun h=>by omega⟩
 ·refine ⟨ts i,σ,TInv.step4 hl ha,?_,rfl,rfl,by omega,Alike.refl,fun h=>by omega,fun h=>by omega,fun h=>by omega,fun h=>by omega,fun _=>rfl⟩
  exact same hT rfl rfl (fun h=>by omega)
omit hl in
end
end Go.Tm
namespace Go.Tm
open MemLike Eng
set_option linter.unusedSectionVars false
set_option linter.unusedVariables false
section
variable {l:Lay} (hl:l.Ok) {σ σ':M} {par rt par' rt':Int→Int}
structure KInv (l:Lay) (σ:M) (par rt:Int→Int) (k K0:Int) (J:Int→Bool) (f e:Int) (st:Bool) (now:Int) (c:CollectS):Prop where
 uv:(0≤c.u∧c.u<l.V)∧0≤c.v∧c.v<l.V
 nd:c.done=false
 ci:CInv l σ c.climb
 sb:0≤c.climb.step∧c.climb.step≤c.steps
 ss:0≤c.steps∧c.steps≤now∧now≤100000000
 fe:K0≤f∧f≤e∧e≤k∧k≤1000000∧0≤K0
 fe0:c.second=false→e=f
 to:e=k→CTo l σ rt (rt (l.vertex 0 (if c.second then c.v else c.u))) c.climb
 lv:1≤c.rounds→c.last.v.version=f
 nu:c.second=true→c.now.u.version=e∧(f=e→e=k→c.now.u.root=rt (l.vertex 0 c.u))
 pt:f=k→1≤c.rounds→c.last.u.version=k→c.last.v.root=rt (l.vertex 0 c.v)∧(1≤c.last.at_∧c.last.at_≤now)∧J c.last.at_=decide (rt (l.vertex 0 c.u)=rt (l.vertex 0 c.v))
 sm:st=true→1≤c.rounds∧(f=k→c.last.u=⟨rt (l.vertex 0 c.u),k⟩∧c.last.v=⟨rt (l.vertex 0 c.v),k⟩)
 rd:0≤c.rounds∧c.rounds≤2 * (f - K0)+(if st then 1 else 0)
noncomputable def zgn (l:Lay) (par rt:Int→Int) (k f:Int) (st:Bool) (c:CollectS):Nat :=
 crem l par rt c.climb+(if c.second then 0 else 2 * upH l par rt (l.vertex 0 c.v)+2)+(if f=k then (if st then 0 else 1) else 2) * (2 * upH l par rt (l.vertex 0 c.u)+2+(2 * upH l par rt (l.vertex 0 c.v)+2))
include hl
theorem KInv.start (hS:SeenF l σ par rt) {u v:Int} (hu:0≤u∧u<l.V) (hv:0≤v∧v<l.V) {k:Int} {J:Int→Bool} (hk:0≤k∧k≤1000000):KInv l σ par rt k k J k k false 0 (za8 l u v)∧zgn l par rt k k false (za8 l u v)=2 * ((2 * upH l par rt (l.vertex 0 u)+2)+(2 * upH l par rt (l.vertex 0 v)+2)):=by
 have hc:=CGo.start hl hS hu
 refine ⟨⟨⟨hu,hv⟩,rfl,hc.1.to.inv,by show (0:Int)≤0∧(0:Int)≤0; decide,by show (0:Int)≤0∧(0:Int)≤0∧(0:Int)≤100000000; decide,by omega,fun _=>rfl,fun _=>hc.1.to,fun h=>absurd h (show ¬(1:Int)≤0 by decide),fun h=>(by cases h),fun _ h=>absurd h (show ¬(1:Int)≤0 by decide),fun h=>(by cases h),by show (0:Int)≤0∧(0:Int)≤_; simp⟩,?_⟩
 unfold zgn
 rw [if_pos rfl,if_neg (show ¬(false=true) by decide)]
 show crem l par rt (za4 l u)+(2 * upH l par rt (l.vertex 0 v)+2)+1 * _=_
 rw [hc.2]
 show _+_+1 * (2 * upH l par rt (l.vertex 0 u)+2+(2 * upH l par rt (l.vertex 0 v)+2))=_
 omega
structure KEnd (l:Lay) (rt:Int→Int) (k K0:Int) (J:Int→Bool) (now:Int) (u v:Int) (c:CollectS):Prop where
 dn:c.done=true
 pt:1≤c.point∧c.point≤now
 jn:c.joined=J c.point
 jt:c.joined=decide (rt (l.vertex 0 u)=rt (l.vertex 0 v))
 rd:2≤c.rounds∧c.rounds≤2 * (k - K0)+2
 stp:c.last.at_=c.point
theorem KInv.step (hS:SeenF l σ par rt) {k K0 f e now:Int} {J:Int→Bool} {st:Bool} {c:CollectS} (h:KInv l σ par rt k K0 J f e st now c) (hv:∀ x,V0 l x→zaY l σ (l.field x 1)=k) (hJ:J (now+1)=decide (rt (l.vertex 0 c.u)=rt (l.vertex 0 c.v))) (hn:now+1≤100000000) :
  (∃ f' e' st',KInv l σ par rt k K0 J f' e' st' (now+1) (c.stp l σ (now+1))∧zgn l par rt k f' st' (c.stp l σ (now+1))+1≤zgn l par rt k f st c∧((c.stp l σ (now+1)).rounds=c.rounds∨(c.stp l σ (now+1)).rounds=c.rounds+1∧(c.stp l σ (now+1)).last.at_=now+1)∧((c.stp l σ (now+1)).rounds=c.rounds→(c.stp l σ (now+1)).last=c.last)) ∨
  (KEnd l rt k K0 J (now+1) c.u c.v (c.stp l σ (now+1))∧(c.stp l σ (now+1)).rounds=c.rounds+1∧(c.stp l σ (now+1)).last=c.last):=by
 have hb:0≤c.climb.step∧c.climb.step≤1000000000:=by have:=h.sb; have:=h.ss; omega
 have e1:c.stp l σ (now+1)=({ c with steps:=c.steps+1,climb:=c.climb.stp l σ }:CollectS).next l (now+1):=by
  unfold CollectS.stp
  rw [if_neg (by rw [h.nd]; decide),za9 (by have:=h.ss; omega)]
 obtain ⟨r0,hr0⟩:∃ r0,(if c.climb.top then c.climb.node=r0 else rt c.climb.node=r0):=by
  by_cases ht:c.climb.top=true
  ·exact ⟨c.climb.node,by rw [if_pos ht]⟩
  ·exact ⟨rt c.climb.node,by rw [if_neg ht]⟩
 have hto0:CTo l σ rt r0 c.climb:=⟨h.ci,hr0⟩
 have hfe:=h.fe
 have hss:=h.ss
 rcases CTo.stp hl hS hto0 hb with ⟨g1,g2,g3⟩ | ⟨g1,g2,g3,g4⟩
 ·
  have e2:c.stp l σ (now+1)={ c with steps:=c.steps+1,climb:=c.climb.stp l σ }:=by
   rw [e1]; unfold CollectS.next; rw [if_pos g1]
  have hcr:=zli hl hS h.ci hb g1
  refine .inl ⟨f,e,st,?_,?_,.inl (by rw [e2]),fun _=>by rw [e2]⟩
  ·rw [e2]
   refine ⟨h.uv,h.nd,g2.inv,⟨by show 0≤(c.climb.stp l σ).step; rw [g3]; omega,by show (c.climb.stp l σ).step≤c.steps+1; rw [g3]; have:=h.sb; omega⟩,by show 0≤c.steps+1∧c.steps+1≤now+1∧now+1≤100000000; omega,hfe,h.fe0,fun he=>?_,h.lv,h.nu,fun a b d=>?_,h.sm,h.rd⟩
   ·rcases CTo.stp hl hS (h.to he) hb with ⟨_,q,_⟩ | ⟨q,_⟩
    ·exact q
    ·rw [g1] at q; cases q
   ·obtain ⟨p1,p2,p3⟩:=h.pt a b d
    exact ⟨p1,⟨p2.1,by show c.last.at_≤now+1; omega⟩,p3⟩
  ·rw [e2]; unfold zgn; dsimp only; omega
 ·
  have hver:(c.climb.stp l σ).version=k:=by
   rw [g3]
   have hV:V0 l r0:=by
    rw [←g2]
    have ht:c.climb.top=true:=by
     refine Classical.byContradiction fun hne=>?_
     rcases zfw hl hS h.ci (fun _=>h.ci.v0) with ⟨q1,q2⟩ | ⟨_,q1,_⟩
     ·have e:=zgs hl h.ci hb q1
      dsimp only at e
      rw [if_neg hne] at e
      split at e<;>· rw [e] at g1; have:=h.ci.nd; rw [show ∀ z:ClimbS,z.done=z.done from fun _=>rfl] at g1; simp [this] at g1
     ·have e:=zgr hl h.ci hb q1
      rw [e] at g1; have:=h.ci.nd; simp [this] at g1
    rw [g2]
    rw [if_pos ht] at hr0
    rw [←hr0]; exact h.ci.v0
   exact hv r0 hV
  have hroot:(c.climb.stp l σ).root=(c.climb.stp l σ).node:=by unfold ClimbS.root; rw [if_pos g1]
  have hrk:e=k→(c.climb.stp l σ).node=rt (l.vertex 0 (if c.second then c.v else c.u)):=fun he=>by
   rcases CTo.stp hl hS (h.to he) hb with ⟨q,_⟩ | ⟨_,q,_⟩
   ·rw [g1] at q; cases q
   ·exact q
  have hcu:=CGo.start hl hS h.uv.1
  have hcv:=CGo.start hl hS h.uv.2
  have hcp:=zgw (l:=l) (par:=par) (rt:=rt) (c:=c.climb)
  by_cases hsec:c.second=true
  ·
   have hnu:=h.nu hsec
   have hlv:=h.lv
   obtain ⟨ru,hru⟩:∃ x,c.now.u=x:=⟨_,rfl⟩
   have e2:c.stp l σ (now+1)=CollectS.over { c with steps:=c.steps+1,now:={ c.now with v:=⟨(c.climb.stp l σ).node,k⟩,at_:=now+1 },second:=false,climb:=za4 l c.u }:=by
    rw [e1]; unfold CollectS.next
    rw [if_neg (by show ¬(c.climb.stp l σ).done=false; rw [g1]; decide),if_neg (by show ¬c.second=false; rw [hsec]; decide)]
    show CollectS.over { c with steps:=c.steps+1,now:={ c.now with v:=⟨(c.climb.stp l σ).root,(c.climb.stp l σ).version⟩,at_:=now+1 },second:=false,climb:=za4 l c.u }=_
    rw [hroot,hver]
   have hrd:=h.rd
   have hrb:c.rounds≤10000000:=by have:=h.rd; split at this<;>omega
   have hw:IntKind.i64.wrap (c.rounds+1)=c.rounds+1:=za9 (by omega)
   by_cases hend:c.rounds+1 > 1∧c.now.u=c.last.u∧(⟨(c.climb.stp l σ).node,k⟩:SeenS)=c.last.v
   ·
    have e3:c.stp l σ (now+1)={ c with steps:=c.steps+1,now:={ c.now with v:=⟨(c.climb.stp l σ).node,k⟩,at_:=now+1 },second:=false,climb:=za4 l c.u,rounds:=c.rounds+1,done:=true }:=by
     rw [e2]; unfold CollectS.over
     rw [if_pos (by show IntKind.i64.wrap (c.rounds+1) > 1∧_; rw [hw]; exact hend)]
     show ({ c with steps:=c.steps+1,now:=_,second:=false,climb:=_,rounds:=IntKind.i64.wrap (c.rounds+1),done:=true }:CollectS)=_
     rw [hw]
    obtain ⟨n1,n2,n3⟩:=hend
    have hr1:1≤c.rounds:=by omega
    have hfk:f=k:=by rw [←hlv hr1,←n3]
    have hek:e=k:=by omega
    have huk:c.last.u.version=k:=by rw [←n2,hnu.1,hek]
    obtain ⟨p1,p2,p3⟩:=h.pt hfk hr1 huk
    have hur:c.last.u.root=rt (l.vertex 0 c.u):=by rw [←n2]; exact hnu.2 (by omega) hek
    refine .inr ⟨?_,by rw [e3],by rw [e3]⟩
    rw [e3]
    have hjt:(CollectS.joined { c with steps:=c.steps+1,now:={ c.now with v:=⟨(c.climb.stp l σ).node,k⟩,at_:=now+1 },second:=false,climb:=za4 l c.u,rounds:=c.rounds+1,done:=true })=decide (rt (l.vertex 0 c.u)=rt (l.vertex 0 c.v)):=by
     show (true && decide (c.last.u.root=c.last.v.root))=_
     rw [Bool.true_and,hur,p1]
    refine ⟨rfl,⟨?_,?_⟩,?_,hjt,⟨by show 2≤c.rounds+1; omega,?_⟩,rfl⟩
    ·show 1≤c.last.at_; exact p2.1
    ·show c.last.at_≤now+1; omega
    ·rw [hjt,←p3]; rfl
    ·show c.rounds+1≤_; split at hrd<;>omega
   ·have e3:c.stp l σ (now+1)={ c with steps:=c.steps+1,now:=zlu,last:=⟨c.now.u,⟨(c.climb.stp l σ).node,k⟩,now+1⟩,second:=false,climb:=za4 l c.u,rounds:=c.rounds+1 }:=by
     rw [e2]; unfold CollectS.over
     rw [if_neg (by show ¬(IntKind.i64.wrap (c.rounds+1) > 1∧_); rw [hw]; exact hend)]
     show ({ c with steps:=c.steps+1,now:=zlu,last:=_,second:=false,climb:=_,rounds:=IntKind.i64.wrap (c.rounds+1) }:CollectS)=_
     rw [hw]
    refine .inl ⟨k,k,decide (f=k),?_,?_,.inr ⟨by rw [e3],by rw [e3]⟩,fun hc=>by rw [e3] at hc; have hc:c.rounds+1=c.rounds:=hc; omega⟩
    ·rw [e3]
     refine ⟨h.uv,h.nd,hcu.1.to.inv,⟨by show (0:Int)≤0; decide,by show (0:Int)≤c.steps+1; omega⟩,by show 0≤c.steps+1∧c.steps+1≤now+1∧now+1≤100000000; omega,by omega,fun _=>rfl,fun _=>hcu.1.to,fun _=>rfl,fun h=>(by cases h),fun _ _ huk=>?_,fun hst=>?_,⟨by show 0≤c.rounds+1; omega,?_⟩⟩
     ·
      have huk:c.now.u.version=k:=huk
      have hek:e=k:=by rw [←hnu.1]; exact huk
      refine ⟨?_,⟨by show 1≤now+1; omega,by show now+1≤now+1; omega⟩,hJ⟩
      have:=hrk hek
      rw [if_pos hsec] at this; exact this
     ·have hfk:f=k:=of_decide_eq_true hst
      have hek:e=k:=by omega
      refine ⟨by show 1≤c.rounds+1; omega,fun _=>⟨?_,?_⟩⟩
      ·show c.now.u=_
       have a1:=hnu.1; have a2:=hnu.2 (by omega) hek
       rw [hru] at a1 a2 ⊢
       cases ru; simp only at a1 a2; rw [a1,a2,hek]
      ·show (⟨(c.climb.stp l σ).node,k⟩:SeenS)=_
       have:=hrk hek
       rw [if_pos hsec] at this; rw [this]
     ·show c.rounds+1≤_
      by_cases hfk:f=k
      ·rw [decide_eq_true hfk,if_pos rfl]
       have hst:st=false:=by
        cases hs:st with
        | false=>rfl
        | true =>
         exfalso
         have hek:e=k:=by omega
         obtain ⟨r1,r2⟩:=h.sm hs
         obtain ⟨r2,r3⟩:=r2 hfk
         refine hend ⟨by omega,?_,?_⟩
         ·rw [r2]
          have a1:=hnu.1; have a2:=hnu.2 (by omega) hek
          rw [hru] at a1 a2 ⊢
          cases ru; simp only at a1 a2; rw [a1,a2,hek]
         ·rw [r3]; have:=hrk hek; rw [if_pos hsec] at this; rw [this]
       rw [hst] at hrd
       simp at hrd; omega
      ·rw [decide_eq_false hfk]
       split at hrd<;>simp<;>omega
    ·rw [e3]
     unfold zgn
     rw [if_pos rfl]
     show crem l par rt (za4 l c.u)+(2 * upH l par rt (l.vertex 0 c.v)+2)+(if decide (f=k)=true then 0 else 1) * (2 * upH l par rt (l.vertex 0 c.u)+2+(2 * upH l par rt (l.vertex 0 c.v)+2))+1≤_
     rw [hcu.2,if_pos hsec]
     by_cases hfk:f=k
     ·rw [decide_eq_true hfk,if_pos rfl,if_pos hfk]
      have hst:st=false:=by
       cases hs:st with
       | false=>rfl
       | true =>
        exfalso
        have hek:e=k:=by omega
        obtain ⟨r1,r2⟩:=h.sm hs
        obtain ⟨r2,r3⟩:=r2 hfk
        refine hend ⟨by omega,?_,?_⟩
        ·rw [r2]
         have a1:=hnu.1; have a2:=hnu.2 (by omega) hek
         rw [hru] at a1 a2 ⊢
         cases ru; simp only at a1 a2; rw [a1,a2,hek]
        ·rw [r3]; have:=hrk hek; rw [if_pos hsec] at this; rw [this]
      rw [hst,if_neg (by decide)]
      omega
     ·rw [decide_eq_false hfk,if_neg (by decide),if_neg hfk]
      omega
  ·
   have hsf:c.second=false:=by simpa using hsec
   have e2:c.stp l σ (now+1)={ c with steps:=c.steps+1,now:={ c.now with u:=⟨(c.climb.stp l σ).node,k⟩ },second:=true,climb:=za4 l c.v }:=by
    rw [e1]; unfold CollectS.next
    rw [if_neg (by show ¬(c.climb.stp l σ).done=false; rw [g1]; decide),if_pos hsf]
    show ({ c with steps:=c.steps+1,now:={ c.now with u:=⟨(c.climb.stp l σ).root,(c.climb.stp l σ).version⟩ },second:=true,climb:=za4 l c.v }:CollectS)=_
    rw [hroot,hver]
   have hef:=h.fe0 hsf
   refine .inl ⟨f,k,st,?_,?_,.inl (by rw [e2]),fun _=>by rw [e2]⟩
   ·rw [e2]
    refine ⟨h.uv,h.nd,hcv.1.to.inv,⟨by show (0:Int)≤0; decide,by show (0:Int)≤c.steps+1; omega⟩,by show 0≤c.steps+1∧c.steps+1≤now+1∧now+1≤100000000; omega,by omega,fun h=>(by cases h),fun _=>hcv.1.to,h.lv,fun _=>⟨rfl,fun hf _=>?_⟩,fun a b d=>?_,h.sm,h.rd⟩
    ·show (c.climb.stp l σ).node=_
     have:=hrk (by omega)
     rw [if_neg hsec] at this; exact this
    ·obtain ⟨p1,p2,p3⟩:=h.pt a b d
     exact ⟨p1,⟨p2.1,by show c.last.at_≤now+1; omega⟩,p3⟩
   ·rw [e2]
    unfold zgn
    show crem l par rt (za4 l c.v)+0+_+1≤_
    rw [hcv.2,if_neg hsec]
    dsimp only
    omega
end
end Go.Tm
namespace Go.Tm
open MemLike Eng
set_option linter.unusedSectionVars false
set_option linter.unusedVariables false
section
variable {l:Lay} (hl:l.Ok) {p:Pen} (hp:PenOk p) {pr:Int→Int} {σ σ':M} {g:G} {par rt par' rt' par0:Int→Int}
def zkF (σ:M) (c:ClimbS):Prop:=c.look.half=true→c.look.word=(zaf (get σ c.look.cell)).1
include hl
theorem zmi (hS:SeenF l σ par rt) {c:ClimbS} (hI:CInv l σ c) (hb:0≤c.step∧c.step≤1000000000) (g1:(c.stp l σ).done=false):zkF σ (c.stp l σ):=by
 rcases zfw hl hS hI (fun _=>hI.v0) with ⟨h1,h2⟩ | ⟨hh,h1,h2,h3,h4,h5,h6⟩
 ·have e:=zgs hl hI hb h1
  dsimp only at e
  split at e
  ·rw [e] at g1; cases g1
  ·split at e<;>· rw [e]; intro h; cases h
 ·have e:=zgr hl hI hb h1
  rw [e]
  intro _
  show (c.look.step l σ).word=(zaf (get σ (c.look.step l σ).cell)).1
  rw [h2,h4]
theorem KInv.fresh (hS:SeenF l σ par rt) {k K0 f e now:Int} {J:Int→Bool} {st:Bool} {c:CollectS} (h:KInv l σ par rt k K0 J f e st now c) {n2:Int} (hd:(c.stp l σ n2).done=false):zkF σ (c.stp l σ n2).climb:=by
 have hb:0≤c.climb.step∧c.climb.step≤1000000000:=by have:=h.sb; have:=h.ss; omega
 have f0:∀ v,zkF σ (za4 l v):=fun v hh=>by cases hh
 unfold CollectS.stp at hd ⊢
 rw [if_neg (by rw [h.nd]; decide)] at hd ⊢
 unfold CollectS.next at hd ⊢
 split
 ·next hc=>exact zmi hl hS h.ci hb hc
 ·split
  ·exact f0 _
  ·unfold CollectS.over
   split<;>exact f0 _
omit hl in
theorem CInv.same {c:ClimbS} (hI:CInv l σ c) (hm:∀ x f,V0 l x→(f=1∨f=2)→zaY l σ' (l.field x f)=zaY l σ (l.field x f)) (hst:∀ t:Int,1≤t∧t≤l.T→get σ' (l.state t)=get σ (l.state t)):CInv l σ' c :=
 ⟨hI.nd,hI.v0,hI.cell,hI.ld,fun hh=>by
  obtain ⟨h1,h2⟩:=hI.half hh
  exact ⟨h1,by rw [hst _ h1,h2,hI.cell,hm _ _ hI.v0 (by cases c.top<;>simp)]⟩⟩
omit hl in
theorem KInv.same {k K0 f e now:Int} {J:Int→Bool} {st:Bool} {c:CollectS} (h:KInv l σ par rt k K0 J f e st now c) (hm:∀ x f,V0 l x→(f=1∨f=2)→zaY l σ' (l.field x f)=zaY l σ (l.field x f)) (hst:∀ t:Int,1≤t∧t≤l.T→get σ' (l.state t)=get σ (l.state t)):KInv l σ' par rt k K0 J f e st now c :=
 ⟨h.uv,h.nd,h.ci.same hm hst,h.sb,h.ss,h.fe,h.fe0,fun he=>⟨(h.to he).inv.same hm hst,(h.to he).to⟩,h.lv,h.nu,h.pt,h.sm,h.rd⟩
omit hl in
theorem KInv.commit {k K0 f e now:Int} {J:Int→Bool} {st:Bool} {c:CollectS} (h:KInv l σ par rt k K0 J f e st now c) (hf:zkF σ c.climb)
  (hw:∀ x f,V0 l x→(f=1∨f=2)→1≤(zaf (gf l σ x f)).1.thread→zcA (zaf (gf l σ x f)).1 (get σ' (l.state (zaf (gf l σ x f)).1.thread))=zaY l σ' (l.field x f)) (hk:k+1≤1000000):KInv l σ' par' rt' (k+1) K0 J f e st now c:=by
 have hfe:=h.fe
 refine ⟨h.uv,h.nd,⟨h.ci.nd,h.ci.v0,h.ci.cell,h.ci.ld,fun hh=>?_⟩,h.sb,h.ss,by omega,h.fe0,fun he=>by omega,h.lv,fun hs=>⟨(h.nu hs).1,fun _ he=>by omega⟩,fun hf1=>by omega,fun hs=>⟨(h.sm hs).1,fun hf1=>by omega⟩,h.rd⟩
 obtain ⟨h1,_⟩:=h.ci.half hh
 refine ⟨h1,?_⟩
 have e:=hf hh
 rw [h.ci.cell] at e
 have:=hw c.climb.node (if c.climb.top then 1 else 2) h.ci.v0 (by cases c.climb.top<;>simp)
 unfold gf at this
 rw [←e] at this
 rw [h.ci.cell]; exact this h1.1
def verN (l:Lay) (p:Pen):Nat→M→M
 | 0,σ=>σ
 | n+1,σ =>
  if zcF l ((n+1:Nat):Int) then p.write (verN l p n σ) (l.field ((n+1:Nat):Int) 1) (IntKind.i64.wrap (pnew (verN l p n σ) (l.field ((n+1:Nat):Int) 1)+1)) else verN l p n σ
include hp
theorem zi2 (hz:σ.size=l.cells) {k:Int} (hk:0≤k∧k≤65534) (hv:∀ x,V0 l x→zcy (gf l σ x 1) k):∀ n:Nat,(n:Int)≤l.nodes→((verN l p n σ).size:Int)=l.cells∧(∀ j,(∀ x,V0 l x→j≠l.field x 1)→get (verN l p n σ) j=get σ j) ∧
  ∀ x,V0 l x→if x≤(n:Int) then zaf (gf l (verN l p n σ) x 1)=(⟨k,k+1,p.thread,p.tag⟩,true) else gf l (verN l p n σ) x 1=gf l σ x 1:=by
 intro n
 have ht:=hp.t
 have hg:=hp.g
 induction n with
 | zero=>exact fun _=>⟨hz,fun j _=>rfl,fun x hx=>by rw [if_neg (by have:=hx.1.1; omega)]; rfl⟩
 | succ n ih =>
  intro hn
  obtain ⟨k1,k2,k3⟩:=ih (by omega)
  have hx:l.nd ((n+1:Nat):Int):=⟨by omega,by omega⟩
  rw [verN]
  by_cases hs:zcF l ((n+1:Nat):Int)=true
  ·rw [if_pos hs]
   obtain ⟨τ,hτ⟩:∃ τ,verN l p n σ=τ:=⟨_,rfl⟩
   rw [hτ] at k1 k2 k3 ⊢
   have hV:V0 l ((n+1:Nat):Int):=⟨hx,hs⟩
   have hb:=za5 hl hx (f:=1) (by decide)
   have e1:=k3 _ hV
   rw [if_neg (by omega)] at e1
   have hpl:=(hv _ hV)
   rw [←e1] at hpl
   have hpl':zaf (get τ (l.field ((n+1:Nat):Int) 1))=(⟨k,k,0,0⟩,true):=hpl
   have hok:(⟨k,k+1,p.thread,p.tag⟩:Wd).Ok:=⟨by show 0≤k∧k≤65535; omega,by show 0≤k+1∧k+1≤65535; omega,by show 0≤p.thread∧p.thread≤8; omega,hg,fun h=>by have h:p.thread=0:=h; omega⟩
   have ew:p.write τ (l.field ((n+1:Nat):Int) 1) (IntKind.i64.wrap (pnew τ (l.field ((n+1:Nat):Int) 1)+1))=st τ (l.field ((n+1:Nat):Int) 1) (zfj ⟨k,k+1,p.thread,p.tag⟩):=by
    have e2:pnew τ (l.field ((n+1:Nat):Int) 1)=k:=by unfold pnew; rw [hpl']
    rw [e2,za9 (by omega)]
    unfold Pen.write
    rw [hpl',if_pos rfl]
    have e3:p.to (k+1) ⟨k,k,0,0⟩=⟨k,k+1,p.thread,p.tag⟩:=by unfold Pen.to; dsimp only; rw [if_pos (.inl (by omega))]
    dsimp only
    rw [e3,if_pos (zdI.2 hok),zeo hok]; rfl
   rw [ew]
   refine ⟨by rw [zaN]; exact k1,fun j hj=>by rw [zaO (hj _ hV),k2 j hj],fun x hx'=>?_⟩
   by_cases e:x=((n+1:Nat):Int)
   ·subst e
    rw [if_pos (Int.le_refl _)]
    unfold gf
    rw [zeO (zdf hok),if_pos ⟨rfl,hb.2.1,by rw [k1]; exact hb.2.2⟩,zcm hok]
   ·have eg:gf l (st τ (l.field ((n+1:Nat):Int) 1) (zfj ⟨k,k+1,p.thread,p.tag⟩)) x 1=gf l τ x 1:=zaO fun he=>e ((zaw hl hx'.1 (by decide) hx (by decide)).1 he).1
    rw [eg]
    have:=k3 x hx'
    by_cases hle:x≤(n:Int)
    ·rw [if_pos hle] at this; rw [if_pos (by omega)]; exact this
    ·rw [if_neg hle] at this; rw [if_neg (by omega)]; exact this
  ·rw [if_neg hs]
   refine ⟨k1,k2,fun x hx'=>?_⟩
   have hne:x≠((n+1:Nat):Int):=fun e=>hs (e▸hx'.2)
   have:=k3 x hx'
   by_cases hle:x≤(n:Int)
   ·rw [if_pos hle] at this; rw [if_pos (by omega)]; exact this
   ·rw [if_neg hle] at this; rw [if_neg (by omega)]; exact this
structure Upd (l:Lay) (pr:Int→Int) (p:Pen) (par0:Int→Int) (k:Int) (σ:M) (g:G):Prop where
 w:Writ l pr p par0 (fun _=>k) σ g
 up:∀ x,V0 l x→(zaf (gf l σ x 1)).1.new=k+1
theorem Writ.verN {k:Int} (hk:0≤k∧k≤65534) (ht:p.thread≤l.T) (hw:Writ l pr p par0 (fun _=>k) σ g) (hv:∀ x,V0 l x→zcy (gf l σ x 1) k):Upd l pr p par0 k (Go.Tm.verN l p l.nodes.toNat σ) g:=by
 have hn:=za0 hl
 have htt:=hp.t
 have hz:=hw.rt.size
 obtain ⟨k1,k2,k3⟩:=zi2 hl hp (by exact_mod_cast hz) hk hv l.nodes.toNat (by omega)
 have hx1:∀ x,V0 l x→zaf (gf l (Go.Tm.verN l p l.nodes.toNat σ) x 1)=(⟨k,k+1,p.thread,p.tag⟩,true):=fun x hx=>by
  have:=k3 x hx
  rw [if_pos (by have:=hx.1.2; omega)] at this; exact this
 have hne:∀ x f,l.nd x→0≤f∧f<7→f≠1→gf l (Go.Tm.verN l p l.nodes.toNat σ) x f=gf l σ x f:=fun x f hx hf hn1=>k2 _ fun y hy e=>hn1 ((zaw hl hx hf hy.1 (by decide)).1 e).2
 refine ⟨⟨hw.rt.same_ hl (by exact_mod_cast (k1.trans hz.symm)) (fun j hj=>k2 j fun x hx=>zcd hl hj hx.1 (by decide)) (fun x f hx hf=>hne x f hx (by omega) (by omega)) (fun x hx=>zmd (hne x 2 hx (by decide) (by decide))) (fun x hx=>zdM (hne x 2 hx (by decide) (by decide))),hw.hd,fun x hx hs=>by rw [hne x 2 hx (by decide) (by decide)]; exact hw.sn x hx hs,fun x hx=>?_,?_⟩,fun x hx=>by rw [hx1 x hx]⟩
 ·rw [hx1 x hx]; exact ⟨rfl,.inr ⟨rfl,rfl,rfl⟩⟩
 ·rw [k2 _ fun x hx e=>by
   have hb:=za5 hl hx.1 (f:=1) (by decide); have ho:=zcc hl; have hh:l.heads=l.T+1+l.S * 7:=rfl
   rw [zcq hl ⟨htt.1,ht⟩] at e; omega]
  exact hw.st
end
end Go.Tm
namespace Go.Tm
open MemLike Eng
set_option linter.unusedSectionVars false
set_option linter.unusedVariables false
section
variable {l:Lay} (hl:l.Ok) {p:Pen} (hp:PenOk p) {pr:Int→Int} {σ σ':M} {g:G} {par rt par' rt' par0:Int→Int}
theorem Calm.congr {ver ver':Int→Int} (h:Calm l pr p ver σ g) (he:∀ x,V0 l x→ver x=ver' x):Calm l pr p ver' σ g:=⟨h.rt,h.hd,h.pp,fun x hx=>by rw [←he x hx]; exact h.pv x hx,h.st⟩
theorem zcy.means {x y:Int} (h:zcy (get σ x) y):zaY l σ x=y:=by
 unfold zaY; dsimp only; rw [if_pos (.inr h.ok.2.1)]; exact h.ok.2.2.1
def zbs (l:Lay) (p:Pen) (both:Bool) (σ:M):M:=zbv l p (zbP l both l.nodes.toNat (zbv l p σ p.tag true)) (p.tag+1) false
include hl hp
theorem Upd.commit {k:Int} (h:Upd l pr p par0 k σ g) (ht:p.thread≤l.T) (hg:p.tag+1≤16777215) :
  Calm l pr ⟨p.thread,p.tag+1⟩ (fun _=>k+1) (zbs l p true σ) g∧(∀ x,V0 l x→parent l (zbs l p true σ) x=parent l σ x) ∧
  ∀ x f,V0 l x→(f=1∨f=2)→1≤(zaf (gf l σ x f)).1.thread→zcA (zaf (gf l σ x f)).1 (get (zbs l p true σ) (l.state (zaf (gf l σ x f)).1.thread))=zaY l (zbs l p true σ) (l.field x f):=by
 have htt:=hp.t
 have hgg:=hp.g
 have ho:=zcc hl
 have hh:l.heads=l.T+1+l.S * 7:=rfl
 have es:=zcq hl ⟨htt.1,ht⟩
 obtain ⟨hC,hCn⟩:=h.w.commit hl hp ht
 obtain ⟨hK,_,hP⟩:=hC.clean hl hp ht hg true (fun h=>by cases h)
 have ec:∀ x f,V0 l x→0≤f∧f<7→gf l (zbv l p σ p.tag true) x f=gf l σ x f:=fun x f hx hf=>hCn _ (by have:=za5 hl hx.1 hf; omega)
 have hK2:Calm l pr ⟨p.thread,p.tag+1⟩ (fun _=>k+1) (zbs l p true σ) g:=hK.congr fun x hx=>by rw [ec x 1 hx (by decide)]; exact h.up x hx
 have hP2:∀ x,V0 l x→parent l (zbs l p true σ) x=parent l σ x:=fun x hx=>(hP x hx).trans (zdM (ec x 2 hx (by decide)))
 refine ⟨hK2,hP2,fun x f hx hf h1=>?_⟩
 have hst:get (zbs l p true σ) (l.state p.thread)=zbS (p.tag+1) false:=hK2.st
 have key:∀ w:Wd,w.thread=p.thread→w.tag=p.tag→zcA w (get (zbs l p true σ) (l.state w.thread))=w.new:=fun w e1 e2=>by
  unfold zcA
  rw [e1,hst,zjL ⟨by omega,hg⟩,if_pos rfl]
  unfold zeN
  dsimp only
  rw [if_pos (.inr (.inl (by omega)))]
 rcases hf with rfl | rfl
 ·obtain ⟨v1,v2⟩:=h.w.vn x hx
  have hw:(zaf (gf l σ x 1)).1.thread=p.thread∧(zaf (gf l σ x 1)).1.tag=p.tag:=by
   rcases v2 with ⟨q,_⟩ | ⟨q1,q2,_⟩
   ·omega
   ·exact ⟨q1,q2⟩
  rw [key _ hw.1 hw.2,h.up x hx]
  exact (hK2.pv x hx).means.symm
 ·obtain ⟨v1,v2⟩:=h.w.sn x hx.1 hx.2
  have hw:(zaf (gf l σ x 2)).1.thread=p.thread∧(zaf (gf l σ x 2)).1.tag=p.tag:=by
   rcases v2 with ⟨q,_⟩ | ⟨q1,q2,_⟩
   ·omega
   ·exact ⟨q1,q2⟩
  rw [key _ hw.1 hw.2]
  have:=(hK2.pp x hx).means (l:=l)
  rw [hP2 x hx] at this
  rw [this]
  unfold parent pnew; rw [if_pos hx.2]
omit hp
theorem zaK.roots (hR:zaK l pr σ g):∃ rt:Int→Int,(∀ x,V0 l x→∃ h:Nat,(h:Int)≤l.nodes∧Up (parent l σ) (V0 l) h x (rt x))∧(∀ u v:Int,0≤u∧u<l.V→0≤v∧v<l.V→(rt (l.vertex 0 u)=rt (l.vertex 0 v)↔Jn g 0 u v))∧∀ x,V0 l x→(rt x=x↔parent l σ x=0):=by
 obtain ⟨F,h1,h2,h3,h4⟩:=hR.rows hl
 exact ⟨fun x=>(F x).root,fun x hx=>(h2 x hx).2,h3,h4⟩
end
end Go.Tm
namespace Go.Tm
open MemLike Eng
section
variable {P:Program} {w0:World} {R:Assn} {n:Nat} {Q:Exit→Act→World→Prop} {env:List (Nat×Value)} {L:List (Nat×Assn)}
variable {ks:List Nat} {L0:List (Nat×Assn)} {ops:Array Oper} {rest:List (Bool×Oper)}
end
theorem zjv {b:Bool} {e:Int} (he:e≠0):(if b=true then (0:Int) else e)=0↔b=true:=by cases b<;>simp [he]
theorem zsr {b:Bool} {e:Int} (h:(if b=true then (0:Int) else e)≠0):b=false:=by cases b; rfl; exact absurd rfl h
theorem zsq {b:Bool} {e:Int} (he:e≠0) (h:¬((if b=true then (0:Int) else e)≠0)):b=true:=(zjv he).1 (Decidable.not_not.1 h)
section
variable {l:Lay} {σ:M} {k:LookS}
theorem LookS.step_d (h:k.done=true):k.step l σ=k:=by unfold LookS.step; rw [if_pos h]
theorem LookS.step_h (h:k.done=false) (h2:k.half=true):k.step l σ=⟨k.cell,k.word,k.half,true,zcA k.word (get σ (l.state k.word.thread))⟩:=by
 unfold LookS.step LookS.got LookS.at; simp only [h,h2,if_true,Bool.false_eq_true,if_false]
theorem LookS.step_0 (h:k.done=false) (h2:k.half=false) (h3:(zaf (get σ k.cell)).2=false∨(zaf (get σ k.cell)).1.thread=0):k.step l σ=⟨k.cell,(zaf (get σ k.cell)).1,true,true,(zaf (get σ k.cell)).1.new⟩:=by
 unfold LookS.step LookS.got LookS.at; simp only [h,h2,if_false,Bool.false_eq_true]; rw [if_pos h3]
theorem LookS.step_n (h:k.done=false) (h2:k.half=false) (h3:(zaf (get σ k.cell)).2=true) (h4:(zaf (get σ k.cell)).1.thread≠0):k.step l σ=⟨k.cell,(zaf (get σ k.cell)).1,true,k.done,k.value⟩:=by
 unfold LookS.step LookS.got LookS.at; simp only [h,h2,if_false,Bool.false_eq_true]; rw [if_neg (by simp [h3,h4])]
def LookS.cnt (l:Lay) (σ:M) (k:LookS) (c:Cnt):Cnt:=if k.done then c else cntL σ (k.at l) c
theorem LookS.cnt_d {c:Cnt} (h:k.done=true):k.cnt l σ c=c:=by unfold LookS.cnt; rw [if_pos h]
theorem LookS.cnt_h {c:Cnt} (h:k.done=false) (h2:k.half=true):k.cnt l σ c=cntL σ (l.state k.word.thread) c:=by unfold LookS.cnt LookS.at; rw [if_neg (by simp [h]),if_pos h2]
theorem LookS.cnt_0 {c:Cnt} (h:k.done=false) (h2:k.half=false):k.cnt l σ c=cntL σ k.cell c:=by unfold LookS.cnt LookS.at; rw [if_neg (by simp [h]),if_neg (by simp [h2])]
variable {c:ClimbS}
theorem ClimbS.stp_d (h:c.done=true):c.stp l σ=c:=by unfold ClimbS.stp; rw [if_pos h]
theorem ClimbS.stp_a (h:c.done=false) (h2:(c.look.step l σ).done=false):c.stp l σ=⟨c.node,c.look.step l σ,c.top,c.done,c.version,IntKind.i64.wrap (c.step+1)⟩:=by
 unfold ClimbS.stp ClimbS.next; rw [if_neg (by simp [h])]; dsimp only; rw [if_pos h2]
theorem ClimbS.stp_b (h:c.done=false) (h2:(c.look.step l σ).done=true) (h3:c.top=true):c.stp l σ=⟨c.node,c.look.step l σ,c.top,true,(c.look.step l σ).value,IntKind.i64.wrap (c.step+1)⟩:=by
 unfold ClimbS.stp ClimbS.next; rw [if_neg (by simp [h])]; dsimp only; rw [if_neg (by simp [h2]),if_pos h3]
theorem ClimbS.stp_c (h:c.done=false) (h2:(c.look.step l σ).done=true) (h3:c.top=false) (h4:0<(c.look.step l σ).value) (h5:(c.look.step l σ).value≤l.nodes):c.stp l σ=⟨(c.look.step l σ).value,zdn (l.field (c.look.step l σ).value 2),c.top,c.done,c.version,IntKind.i64.wrap (c.step+1)⟩:=by
 unfold ClimbS.stp ClimbS.next; rw [if_neg (by simp [h])]; dsimp only; rw [if_neg (by simp [h2]),if_neg (by simp [h3]),if_pos ⟨h4,h5⟩]
theorem ClimbS.stp_e (h:c.done=false) (h2:(c.look.step l σ).done=true) (h3:c.top=false) (h4:¬(0<(c.look.step l σ).value∧(c.look.step l σ).value≤l.nodes)):c.stp l σ=⟨c.node,zdn (l.field c.node 1),true,c.done,c.version,IntKind.i64.wrap (c.step+1)⟩:=by
 unfold ClimbS.stp ClimbS.next; rw [if_neg (by simp [h])]; dsimp only; rw [if_neg (by simp [h2]),if_neg (by simp [h3]),if_neg h4]
def ClimbS.cnt (l:Lay) (σ:M) (c:ClimbS) (n:Cnt):Cnt:=if c.done then n else c.look.cnt l σ n
theorem ClimbS.cnt_d {n:Cnt} (h:c.done=true):c.cnt l σ n=n:=by unfold ClimbS.cnt; rw [if_pos h]
theorem ClimbS.cnt_n {n:Cnt} (h:c.done=false):c.cnt l σ n=c.look.cnt l σ n:=by unfold ClimbS.cnt; rw [if_neg (by simp [h])]
end
section
variable {l:Lay} {S:Type} [MemLike S] {σ:S}
theorem zqf (h:l.S=0):zgk l σ=st σ l.free 0:=by unfold zgk; rw [if_pos h]
theorem zqe (h:l.S≠0):zgk l σ=st (st (zdH l l.S σ) (l.of ((l.S:Int) - 1) 0) 0) l.free 1:=by unfold zgk; rw [if_neg h]
theorem zh4 {dn:Nat} {fd:Nat→Int} {n:Nat} (h:0<dn):zey l P1 (zcY l dn fd n σ) ((n+1:Nat):Int) (fd ((n+1) % dn))=zcY l dn fd (n+1) σ:=by rw [zcY,if_neg (by omega)]
theorem zho {dn:Nat} {fd:Nat→Int} {n:Nat} (h:dn=0):zey l P1 (zcY l dn fd n σ) ((n+1:Nat):Int) 0=zcY l dn fd (n+1) σ:=by rw [zcY,if_pos h]
end
def zjZ (T:TypeId) (b:Nat) (l:Lay) (k:LookS):Assn:=pt b (.cells #[.int .i64 l.V,.int .i64 l.S,.int .i64 l.T,.int .i64 k.cell,.int .i64 k.word.old,.int .i64 k.word.new,.int .i64 k.word.thread,.int .i64 k.word.tag,.bool k.half,.bool k.done,.int .i64 k.value] T)
def zp2 (T:TypeId) (b lb:Nat) (l:Lay) (c:ClimbS):Assn:=pt b (.cells #[.int .i64 l.V,.int .i64 l.S,.int .i64 l.T,.int .i64 c.node,.pointer (some ⟨lb,0,none⟩),.bool c.top,.bool c.done,.int .i64 c.version,.int .i64 c.step] T)
def zaX (T T2:TypeId) (b:Nat) (l:Lay) (c:ClimbS):Assn:=ex fun lb=>star (zp2 T b lb l c) (zjZ T2 lb l c.look)
theorem zaD {T T2:TypeId} {b lb:Nat} {l:Lay} {c:ClimbS} {h f g:HF} (s1:HF.sub f h) (s2:HF.sub g h) (hd:HF.dis f g) (h1:zp2 T b lb l c f) (h2:zjZ T2 lb l c.look g):zaX T T2 b l c h:=⟨lb,f,g,s1,s2,hd,h1,h2⟩
def AllD (l:Lay) (σ:M) (d:Array Int) (u v:Nat):Prop:=(∀ s:Int,(∃ j,j<d.size∧d[j]! =s)↔∃ a b:Int,(0≤a∧a<b∧b<l.V)∧(a<u∨a=u∧b<v)∧(find l σ a b).ok=true∧(find l σ a b).slot=s)
theorem AllD.start {l:Lay} {σ:M} {v:Nat} (hv:v≤1):AllD l σ #[] 0 v:=fun s=>⟨fun ⟨j,hj,_⟩=>absurd hj (Nat.not_lt_zero j),fun ⟨a,b,h1,h2,_⟩=>by omega⟩
theorem AllD.row {l:Lay} {σ:M} {d:Array Int} {u v v':Nat} (h:AllD l σ d u v) (hv:l.V≤v) (hv':v'≤u+2):AllD l σ d (u+1) v':=fun s=>by
 rw [h s]
 constructor
 ·rintro ⟨a,b,h1,h2,h3⟩; exact ⟨a,b,h1,.inl (by omega),h3⟩
 ·rintro ⟨a,b,h1,h2,h3⟩; exact ⟨a,b,h1,(by omega),h3⟩
theorem AllD.yes {l:Lay} {σ:M} {d:Array Int} {u v:Nat} (h:AllD l σ d u v) (huv:u<v) (hv:v<l.V) (hf:(find l σ u v).ok=true):AllD l σ (d++#[(find l σ u v).slot]) u (v+1):=fun s=>by
 constructor
 ·rintro ⟨j,hj,hs⟩
  rw [app_get!] at hs
  rw [Array.size_append] at hj
  simp only [List.size_toArray,List.length_cons,List.length_nil] at hj
  by_cases hlt:j<d.size
  ·rw [if_pos hlt] at hs
   obtain ⟨a,b,h1,h2,h3⟩:=(h s).1 ⟨j,hlt,hs⟩
   exact ⟨a,b,h1,by omega,h3⟩
  ·rw [if_neg hlt,show j - d.size=0 by omega] at hs
   exact ⟨u,v,by omega,.inr ⟨rfl,by omega⟩,hf,hs⟩
 ·rintro ⟨a,b,h1,h2,h3,h4⟩
  by_cases hc:a<u∨a=u∧b<v
  ·obtain ⟨j,hj,hs⟩:=(h s).2 ⟨a,b,h1,hc,h3,h4⟩
   exact ⟨j,by simp; omega,by rw [app_get!,if_pos hj]; exact hs⟩
  ·obtain rfl:a=u:=by omega
   obtain rfl:b=v:=by omega
   exact ⟨d.size,by simp,by rw [app_get!,if_neg (by omega),Nat.sub_self]; exact h4⟩
theorem AllD.no {l:Lay} {σ:M} {d:Array Int} {u v:Nat} (h:AllD l σ d u v) (hf:(find l σ u v).ok=false):AllD l σ d u (v+1):=fun s=>by
 rw [h s]
 constructor
 ·rintro ⟨a,b,h1,h2,h3⟩; exact ⟨a,b,h1,by omega,h3⟩
 ·rintro ⟨a,b,h1,h2,h3,h4⟩
  refine ⟨a,b,h1,?_,h3,h4⟩
  by_cases hc:a<u∨a=u∧b<v
  ·exact hc
  ·obtain rfl:a=u:=by omega
   obtain rfl:b=v:=by omega
   rw [hf] at h3; cases h3
theorem AllD.edges {l:Lay} (hl:l.Ok) {σ:M} {g:G} (hE:EdgeOk l σ g) {d:Array Int} {u v:Nat} (h:AllD l σ d u v) (hu:l.V≤u+1) (s:Int):(∃ j,j<d.size∧d[j]! =s)↔g.has s=true:=by
 rw [h s]
 constructor
 ·rintro ⟨a,b,h1,h2,h3,h4⟩
  rcases hE.found hl (o:=⟨0,a,b⟩) ⟨by show a≠b; omega,by show 0≤a; omega,by show a<l.V; omega,by show 0≤b; omega,by show b<l.V; omega⟩ with ⟨q,hq,h5,h6,h7,_⟩ | ⟨_,h7⟩
  ·have h7:find l σ a b=_:=h7
   rw [h7] at h4; rw [←h4]; exact h6
  ·have h7:find l σ a b=_:=h7
   rw [h7] at h3; cases h3
 ·intro hs
  have hr:=hE.rng s hs
  refine ⟨g.u s,g.v s,by omega,.inl (by omega),?_⟩
  rw [zkf hl hE hs]; exact ⟨rfl,rfl⟩
def UsB (d:Array Int) (k:Nat) (D:Array Bool):Prop:=∀ s,s<D.size→(D[s]! =true↔∃ j,j<k∧d[j]! =(s:Int))
theorem UsB.start {d:Array Int} {n:Nat}:UsB d 0 (Array.replicate n false):=fun s hs=>by
 rw [Array.size_replicate] at hs
 rw [getElem!_pos _ s (by simpa using hs),Array.getElem_replicate]
 exact ⟨fun h=>(by cases h),fun ⟨j,hj,_⟩=>absurd hj (Nat.not_lt_zero j)⟩
theorem UsB.step {d:Array Int} {k s:Nat} {D:Array Bool} (h:UsB d k D) (hs:d[k]! =(s:Int)):UsB d (k+1) (D.setIfInBounds s true):=fun q hq=>by
 rw [Array.size_setIfInBounds] at hq
 rw [get!_set hq]
 by_cases e:s=q
 ·rw [if_pos e]; exact ⟨fun _=>⟨k,by omega,by rw [hs,e]⟩,fun _=>rfl⟩
 ·rw [if_neg e,h q hq]
  constructor
  ·rintro ⟨j,hj,h1⟩; exact ⟨j,by omega,h1⟩
  ·rintro ⟨j,hj,h1⟩
   by_cases hjk:j=k
   ·rw [hjk,hs] at h1; omega
   ·exact ⟨j,by omega,h1⟩
end Go.Tm
namespace Go.Tm
open MemLike Eng
set_option linter.unusedSectionVars false
set_option linter.unusedVariables false
theorem zni {P:Nat→Bool}:∀ {n:Nat},0≤fsN P n→∃ i:Nat,fsN P n=i∧i<n∧P i=true
 | 0,h=>by rw [fsN] at h; exact absurd h (by decide)
 | n+1,h=>by
  rw [fsN] at h ⊢
  by_cases h1:0≤fsN P n
  ·obtain ⟨i,e,hi,hp⟩:=zni h1
   exact ⟨i,by rw [if_pos h1]; exact e,by omega,hp⟩
  ·rw [if_neg h1] at h ⊢
   by_cases h2:P n=true
   ·exact ⟨n,by rw [if_pos h2],by omega,h2⟩
   ·rw [if_neg h2] at h; exact absurd h (by decide)
section
variable {l:Lay} (hl:l.Ok) {p:Pen} (hp:PenOk p) {pr:Int→Int} {σ σ':M} {g g':G} {par0 ver0:Int→Int} {o:Op3}
include hl
theorem Writ.skip (hW:Writ l pr p par0 ver0 σ g) (h:Val3 l o→¬(o.kind=1∧(find l σ o.u o.v).ok=false∧0≤(GA.of g).free l)∧¬(o.kind=2∧(find l σ o.u o.v).ok=true)):zcB l (GA.of g) o=GA.of g:=by
 by_cases hv:Val3 l o
 ·obtain ⟨h1,h2⟩:=h hv
  by_cases k1:o.kind=1
  ·rcases (hW.edges hl).found hl hv with ⟨s,hb,_,_,hf,_⟩ | ⟨hno,hf⟩
   ·exact zng k1 ⟨s,hb⟩
   ·by_cases h0:0≤(GA.of g).free l
    ·exact absurd ⟨k1,by rw [hf],h0⟩ h1
    ·exact zkd k1 (by omega)
  ·by_cases k2:o.kind=2
   ·rcases (hW.edges hl).found hl hv with ⟨s,hb,_,_,hf,_⟩ | ⟨hno,hf⟩
    ·exact absurd ⟨k2,by rw [hf]⟩ h2
    ·exact zkc k2 hno
   ·exact zo3 k1 k2
 ·exact znf hv
include hp
theorem Writ.insS (hW:Writ l pr p par0 ver0 σ g) (ht:p.thread≤l.T) (hv:Val3 l o) (hk:o.kind=1) (ho:(find l σ o.u o.v).ok=false) (h0:0≤(GA.of g).free l) :
  ∃ t σ2 g2,zd2 l p 561 σ ((GA.of g).free l) o.u o.v=some (t,σ2)∧Writ l pr p par0 ver0 σ2 g2∧GA.of g2=zcB l (GA.of g) o∧Rch l p σ σ2:=by
 rcases (hW.edges hl).found hl hv with ⟨s,hb,_,_,hf,_⟩ | ⟨hno,hf⟩
 ·rw [hf] at ho; cases ho
 ·obtain ⟨i,e,hi,hpi⟩:=zni h0
  have e:(GA.of g).free l=i:=e
  obtain ⟨v1,v2,v3,v4,v5⟩:=hv
  have hno2:g.has (i:Int)=false:=by
   have:(!(GA.of g).has (i:Int))=true:=hpi
   exact Bool.not_eq_true' _▸this
  obtain ⟨t,σ2,h1,h2,h3⟩:=hW.ins hl hp ht (s:=(i:Int)) ⟨by omega,by omega⟩ ⟨v2,v3⟩ ⟨v4,v5⟩ v1 hno2 fun q hq hc=>hno ⟨q,hq,hc.1,hc.2⟩
  exact ⟨t,σ2,_,by rw [e]; exact h1,h2,(zlN ⟨v1,v2,v3,v4,v5⟩ hk hno e (by omega)).symm,h3⟩
theorem Writ.delS (hW:Writ l pr p par0 ver0 σ g) (ht:p.thread≤l.T) (hv:Val3 l o) (hk:o.kind=2) (ho:(find l σ o.u o.v).ok=true) :
  ∃ t b oo σ2 g2,zc3 l p 561 σ (find l σ o.u o.v).slot=some ((t,b,oo),σ2)∧Writ l pr p par0 ver0 σ2 g2∧GA.of g2=zcB l (GA.of g) o∧Rch l p σ σ2:=by
 rcases (hW.edges hl).found hl hv with ⟨s,hb,hs,hh,hf,hu⟩ | ⟨hno,hf⟩
 ·obtain ⟨t,b,oo,σ2,g2,h1,h2,e1,e2,e3,h3⟩:=hW.del hl hp ht hh
  exact ⟨t,b,oo,σ2,g2,by rw [hf]; exact h1,h2,(zlO hv hk hb hu e1 e2 e3).symm,h3⟩
 ·rw [hf] at ho; cases ho
end
section
variable {l:Lay} (hl:l.Ok) {σ:M} {g:G} {d:Array Int} {D:Array Bool}
include hl
theorem AllD.slot (hE:EdgeOk l σ g) (hA:AllD l σ d l.V (l.V+1)) {k:Nat} (hk:k<d.size):∃ z:Nat,d[k]! =(z:Int)∧z<l.S:=by
 have h1:=(hA.edges hl hE (by omega) (d[k]!)).1 ⟨k,hk,rfl⟩
 have h2:=(hE.rng _ h1).1
 exact ⟨(d[k]!).toNat,by omega,by omega⟩
theorem UsB.has_ (hU:UsB d d.size D) (hE:EdgeOk l σ g) (hA:AllD l σ d l.V (l.V+1)) {s:Nat} (hs:s<D.size):D[s]! =g.has (s:Int):=by
 have h1:=hU s hs
 rw [hA.edges hl hE (by omega) (s:Int)] at h1
 exact Bool.eq_iff_iff.2 h1
theorem UsB.free_at (hU:UsB d d.size D) (hE:EdgeOk l σ g) (hA:AllD l σ d l.V (l.V+1)) (hz:D.size=l.S) {s:Nat} (hs:s<l.S) (hf:D[s]! =false) (hj:∀ j,j<s→D[j]! =true):(GA.of g).free l=(s:Int) :=
 zpK hs (by show (!g.has (s:Int))=true; rw [←hU.has_ hl hE hA (by omega),hf]; rfl) fun j hjs=>by show (!g.has (j:Int))=false; rw [←hU.has_ hl hE hA (by omega),hj j hjs]; rfl
theorem UsB.free_no (hU:UsB d d.size D) (hE:EdgeOk l σ g) (hA:AllD l σ d l.V (l.V+1)) (hz:D.size=l.S) (hj:∀ j,j<l.S→D[j]! =true):(GA.of g).free l=-1 :=
 znj fun j hjs=>by show (!g.has (j:Int))=false; rw [←hU.has_ hl hE hA (by omega),hj j hjs]; rfl
end
theorem Rch.trans {S:Type} [MemLike S] {l:Lay} {p:Pen} {σ0 σ1 σ2:S} (h:Rch l p σ0 σ1) (h2:Rch l p σ1 σ2):Rch l p σ0 σ2:=by
 induction h2 with
 | refl=>exact h
 | ld i _ ih=>exact ih.ld i
 | nf _ hf ih=>exact ih.nf hf
 | par _ hs ih=>exact ih.par hs
 | wr _ hs ih=>exact ih.wr hs
 | low _ hj ih=>exact ih.low hj
section
variable {l:Lay} {σ:M} {n:Nat}
theorem zmm {x:Int} (h:(l.node x).1.level=0):zcF l x=true:=by unfold zcF; rw [h]; rfl
theorem zml {x:Int} (h:¬(l.node x).1.level=0):zcF l x=false:=by unfold zcF; exact decide_eq_false h
theorem zbO (h:(l.node ((n+1:Nat):Int)).1.level=0):zbK (zbK (zbP l true n σ) (l.field ((n+1:Nat):Int) 2)) (l.field ((n+1:Nat):Int) 1)=zbP l true (n+1) σ:=by rw [zbP,if_pos (zmm h)]; rfl
theorem zcj {both:Bool} (h:¬(l.node ((n+1:Nat):Int)).1.level=0):zbP l both n σ=zbP l both (n+1) σ:=by rw [zbP,zml h]; rfl
end
noncomputable def GA0:GA:=GA.of G0
structure Begun (l:Lay) (pr:Int→Int) (fo:Nat→Op3) (on:Nat) (σ1 σ2:M) (g1 g2:G) (ver:Int→Int):Prop where
 c1:Calm l pr ⟨1,1⟩ ver σ1 g1
 a1:GA.of g1=zo4 l GA0 fo (on / 2)
 w2:Writ l pr ⟨1,1⟩ (parent l σ1) ver σ2 g2
 a2:GA.of g2=zo4 l GA0 fo on
section
variable {l:Lay} (hl:l.Ok) {pr:Int→Int} {σ σ1:M} {g g1:G}
include hl
theorem zi4:(1:Int)≤l.T:=by have:=hl.2.2.2.1; omega
omit hl in
theorem zrM:PenOk ⟨1,0⟩:=⟨by decide,by decide⟩
omit hl in
theorem zqq:PenOk ⟨1,1⟩:=⟨by decide,by decide⟩
theorem Born.w0 (h:Born l pr σ):Writ l pr ⟨1,0⟩ (parent l σ) (fun _=>0) σ G0:=(h.calm hl (p:=⟨1,0⟩) ⟨by decide,zi4 hl⟩ rfl).writ hl
theorem Born.half (hB:Born l pr σ) (hW:Writ l pr ⟨1,0⟩ (parent l σ) (fun _=>0) σ1 g1) (hR:Rch l ⟨1,0⟩ σ σ1) :
  ∃ ver,Calm l pr ⟨1,1⟩ ver (zbv l ⟨1,0⟩ (zbP l false l.nodes.toNat (zbv l ⟨1,0⟩ σ1 0 true)) 1 false) g1:=by
 have ht:=zi4 hl
 obtain ⟨hC,ho⟩:=hW.commit hl (zrM) ht
 have hv:∀ x,V0 l x→gf l (zbv l ⟨1,0⟩ σ1 0 true) x 1=0:=fun x hx=>by
  have e1:gf l (zbv l ⟨1,0⟩ σ1 0 true) x 1=gf l σ1 x 1:=ho _ (by
   have h1:=za5 hl hx.1 (f:=1) (by decide)
   have h2:=zcq hl (t:=1) ⟨by decide,ht⟩
   have h3:l.state (⟨1,0⟩:Pen).thread=1 - 1:=h2
   have h4:=zcc hl
   have h5:l.heads=l.T+1+l.S * 7:=rfl
   omega)
  rw [e1]
  have e2:gf l σ1 x 1=gf l σ x 1:=hR.other hl (.inr (.inr ⟨x,1,hx.1,.inr (.inl rfl),rfl⟩))
  rw [e2]; exact hB.ver x hx.1
 obtain ⟨h1,_⟩:=hC.clean hl (zrM) ht (by decide) false fun _ x hx=>by
  have e:gf l (zbv l ⟨1,0⟩ σ1 0 true) x 1=0:=hv x hx
  have e':gf l (zbv l ⟨1,0⟩ σ1 (⟨1,0⟩:Pen).tag true) x 1=0:=e
  rw [e']; exact zmM
 exact ⟨_,h1⟩
end
end Go.Tm
namespace Go.Tm
open MemLike Eng
set_option linter.unusedSectionVars false
set_option linter.unusedVariables false
theorem Up.next {par:Int→Int} {P:Int→Prop} {h:Nat} {x r:Int} (u:Up par P h x r) (h0:par x≠0):∃ k,h=k+1∧1≤k∧Up par P k (par x) r:=by
 cases u with
 | top _ h1=>exact absurd h1 h0
 | step _ _ hr=>exact ⟨_,rfl,hr.pos,hr⟩
def bmem (l:Lay) (cm:Bool) (σ:M):M:=if cm then zbv l ⟨1,1⟩ σ 1 true else σ
section
variable {l:Lay} (hl:l.Ok) {σ σ':M} {par rt:Int→Int} {c:ClimbS}
include hl
theorem CInv.cnt (hI:CInv l σ c) (hz:σ.size=l.cells) {n:Cnt}:c.cnt l σ n=n.ld:=by
 rw [ClimbS.cnt_n hI.nd]
 unfold LookS.cnt
 rw [if_neg (by rw [hI.ld]; decide)]
 have hr:0≤c.look.at l∧c.look.at l<σ.size:=by
  unfold LookS.at
  split
  ·next hh =>
   have h1:=(hI.half hh).1
   have h2:=zcc hl
   have h3:l.heads=l.T+1+l.S * 7:=rfl
   have h4:=ze9 hl
   rw [zcq hl h1]; omega
  ·rw [hI.cell]
   have:=za5 hl hI.v0.1 (f:=if c.top then 1 else 2) (by split<;>decide)
   omega
 unfold cntL; rw [if_pos hr]
end
section
variable {l:Lay} (hl:l.Ok) {pr:Int→Int} {fo:Nat→Op3} {on:Nat} {σ1 σ2:M} {g1 g2:G} {ver:Int→Int}
include hl
theorem Begun.seen (hB:Begun l pr fo on σ1 σ2 g1 g2 ver) (cm:Bool):(bmem l cm σ2).size=l.cells∧∃ par rt,SeenF l (bmem l cm σ2) par rt∧∀ u v:Int,0≤u∧u<l.V→0≤v∧v<l.V→(rt (l.vertex 0 u)=rt (l.vertex 0 v)↔Jn (if cm then g2 else g1) 0 u v):=by
 have ht:=zi4 hl
 cases cm with
 | false =>
  obtain ⟨F,_,h2,h3,_⟩:=hB.c1.rt.rows hl
  exact ⟨hB.w2.rt.size,parent l σ1,fun x=>(F x).root,hB.w2.seen hl zqq ht (fun x hx=>(h2 x hx).2),h3⟩
 | true =>
  obtain ⟨hC,_⟩:=hB.w2.commit hl zqq ht
  obtain ⟨F,_,h2,h3,_⟩:=hC.rt.rows hl
  exact ⟨hC.rt.size,parent l (bmem l true σ2),fun x=>(F x).root,hC.seen hl zqq ht (fun x hx=>(h2 x hx).2),h3⟩
end
def l16:Lay:=⟨2,1,1⟩
theorem zk4:l16.Ok:=by unfold Lay.Ok; decide
abbrev s16:M:=zhq l16 0 (fun _=>0) (Array.replicate l16.cells.toNat 0)
end Go.Tm
namespace Go.Tm
open MemLike Eng
set_option linter.unusedSectionVars false
set_option linter.unusedVariables false
theorem zrV {g g':G} (h:GA.of g=GA.of g') {u v:Int}:Wh g u v↔Wh g' u v:=by
 have h1:g.has=g'.has:=congrArg GA.has h
 have h2:g.u=g'.u:=congrArg GA.u h
 have h3:g.v=g'.v:=congrArg GA.v h
 unfold Wh; rw [h1,h2,h3]
section
variable {l:Lay} (hl:l.Ok) {pr:Int→Int} {fo:Nat→Op3} {on:Nat} {σ1 σ2 σ:M} {g1 g2 g:G} {ver par0 ver0:Int→Int} {p:Pen}
include hl
theorem Writ.wh (hW:Writ l pr p par0 ver0 σ g) {u v:Int}:Wh g u v↔Jn g 0 u v:=Wh.jn hW.hd fun q hq=>((hW.edges hl).rng q hq).2.2.1
theorem Writ.joined (hW:Writ l pr p par0 ver0 σ g) {u v:Int} (hu:0≤u∧u<l.V) (hv:0≤v∧v<l.V):∃ b,Go.Tm.same l 561 σ 0 u v=some (b,σ)∧(b=true↔Wh g u v):=by
 have lb:=zc2 hl
 obtain ⟨b,h1,h2⟩:=hW.rt.same hl (i:=0) (u:=u) (v:=v) ⟨by omega,hu⟩ ⟨by omega,hv⟩ (k:=561) (by decide)
 exact ⟨b,h1,h2.trans (hW.wh hl).symm⟩
theorem Begun.same (hB:Begun l pr fo on σ1 σ2 g1 g2 ver) {cm:Bool} {rt:Int→Int} (hJ:∀ u v:Int,0≤u∧u<l.V→0≤v∧v<l.V→(rt (l.vertex 0 u)=rt (l.vertex 0 v)↔Jn (if cm then g2 else g1) 0 u v)) (hW:Writ l pr p par0 ver0 σ g) (hG:GA.of g=zo4 l GA0 fo (if cm then on else on / 2))
  {u v:Int} (hu:0≤u∧u<l.V) (hv:0≤v∧v<l.V):∃ b,Go.Tm.same l 561 σ 0 u v=some (b,σ)∧(!(decide (rt (l.vertex 0 u)=rt (l.vertex 0 v)) == b))=false:=by
 obtain ⟨b,h1,h2⟩:=hW.joined hl hu hv
 refine ⟨b,h1,?_⟩
 have h3:Wh g u v↔Jn (if cm then g2 else g1) 0 u v:=by
  cases cm with
  | true=>rw [zrV (g':=g2) (hG.trans hB.a2.symm)]; exact hB.w2.wh hl
  | false=>rw [zrV (g':=g1) (hG.trans hB.a1.symm)]; exact (hB.c1.writ hl).wh hl
 have h4:(decide (rt (l.vertex 0 u)=rt (l.vertex 0 v))=true)↔b=true:=by rw [decide_eq_true_iff,hJ u v hu hv,h2,h3]
 rw [Bool.eq_iff_iff.2 h4]; cases b<;>rfl
end
section
variable {l:Lay} (hl:l.Ok) {σ σ':M} {par rt:Int→Int} {c:ClimbS}
include hl
end
section
variable {l:Lay} (hl:l.Ok) {pr:Int→Int} {fo:Nat→Op3} {on:Nat} {σ1 σ2 σ:M} {g1 g2 g:G} {ver par0 ver0:Int→Int} {p:Pen}
include hl
end
section
variable {P:Program} {w0:World} {R:Assn} {n:Nat} {Q:Exit→Act→World→Prop} {env:List (Nat×Value)} {L:List (Nat×Assn)}
variable {ks:List Nat} {L0:List (Nat×Assn)} {ops:Array Oper} {rest:List (Bool×Oper)}
variable {d:Option Tmp} {x y:Operand} {ty T K E:TypeId} {ps:String} {af:Array Edge} {g:Option (Nat×Bool)}
variable {κ β:Type} [DecidableEq κ] {enc:κ→Value} {venc:β→Value}
end
def KpT (l:Lay) (n:Int) (z:Int):Prop:=∃ t:Int,(1≤t∧t≤n)∧z=l.state t
def KpN (l:Lay) (n:Int) (z:Int):Prop:=∃ x:Int,(1≤x∧x≤n)∧(l.node x).1.level=0∧(z=l.field x 2∨z=l.field x 1)
def Kp (qs:List (Int×Bool)) (P:Int→Prop):Prop:=∀ z,P z→mget qs z=some true
theorem Kp.put {qs:List (Int×Bool)} {P P':Int→Prop} {q:Int} (h:Kp qs P) (hP:∀ z,P' z→P z∨z=q):Kp (mput qs q true) P':=fun z hz=>by
 rw [zkV]
 by_cases e:z=q
 ·rw [if_pos e]
 ·rw [if_neg e]; exact h z ((hP z hz).resolve_right e)
theorem Kp.mono {qs:List (Int×Bool)} {P P':Int→Prop} (h:Kp qs P) (hP:∀ z,P' z→P z):Kp qs P':=fun z hz=>h z (hP z hz)
theorem KpT.zero {l:Lay}:Kp [] (KpT l 0):=fun z ⟨t,h,_⟩=>by omega
theorem KpT.succ {l:Lay} {n z:Int} (h:KpT l (n+1) z):KpT l n z∨z=l.state (n+1):=by
 obtain ⟨t,h1,h2⟩:=h
 by_cases e:t=n+1
 ·exact .inr (e▸h2)
 ·exact .inl ⟨t,by omega,h2⟩
theorem KpN.zero {l:Lay} {z:Int} (h:KpN l 0 z):False:=by obtain ⟨x,h,_⟩:=h; omega
theorem KpN.succ {l:Lay} {n z:Int} (h:KpN l (n+1) z):KpN l n z∨((l.node (n+1)).1.level=0∧(z=l.field (n+1) 2∨z=l.field (n+1) 1)):=by
 obtain ⟨x,h1,h2,h3⟩:=h
 by_cases e:x=n+1
 ·exact .inr (e▸⟨h2,h3⟩)
 ·exact .inl ⟨x,by omega,h2,h3⟩
def OthM (qs:List (Int×Bool)) (σ τ:M):Prop:=τ.size=σ.size∧∀ z,mget qs z=some true→get τ z=get σ z
theorem OthM.st {qs:List (Int×Bool)} {σ τ:M} (h:OthM qs σ τ) {i y:Int} (hi:(mget qs i).getD false=false):OthM qs σ (MemLike.st τ i y):=⟨by rw [zaN]; exact h.1,fun z hz=>by
 rw [zaO (fun e=>by rw [e] at hz; rw [hz] at hi; cases hi)]; exact h.2 z hz⟩
section
variable {l:Lay} (hl:l.Ok) {σ τ:M} {par rt:Int→Int}
include hl
end
end Go.Tm
namespace Go.Tm
open MemLike Eng
set_option linter.unusedSectionVars false
set_option linter.unusedVariables false
def zlY (x:SeenS):List Value:=[.int .i64 x.root,.int .i64 x.version]
theorem zmj (x:SeenS):Fits (zlY x) [.i .i64,.i .i64]:=⟨.i _ _,.i _ _,trivial⟩
theorem sn_eq (x y:SeenS):eqVs (zlY x) (zlY y)=decide (x=y):=by
 obtain ⟨a,b⟩:=x
 obtain ⟨a',b'⟩:=y
 simp only [zlY,eqVs,eqV,SeenS.mk.injEq,Bool.and_true]
 by_cases h1:a=a'<;>by_cases h2:b=b'<;>simp [h1,h2]
theorem zpy {P:Program} {T:TypeId} (hT:zqI P T [.i .i64,.i .i64]=true) (x y:SeenS) (w:World):(Op.equalIn 10000 T (.agg (zlY x).toArray) (.agg (zlY y).toArray)).run P w=.ok (decide (x=y)) w:=by
 rw [←sn_eq]; exact zlE hT (zmj x) (zmj y) 9998 w
section
variable {l:Lay} {σ:M} {c:CollectS} {n:Int}
theorem CollectS.over_y (h:IntKind.i64.wrap (c.rounds+1) > 1) (h1:c.now.u=c.last.u) (h2:c.now.v=c.last.v):c.over=⟨c.u,c.v,c.climb,c.now,c.last,c.second,true,IntKind.i64.wrap (c.rounds+1),c.steps⟩:=by
 unfold CollectS.over; rw [if_pos ⟨h,h1,h2⟩]
theorem CollectS.over_n (h:¬(IntKind.i64.wrap (c.rounds+1) > 1∧c.now.u=c.last.u∧c.now.v=c.last.v)):c.over=⟨c.u,c.v,c.climb,zlu,c.now,c.second,c.done,IntKind.i64.wrap (c.rounds+1),c.steps⟩:=by
 unfold CollectS.over; rw [if_neg h]
theorem CollectS.stp_d (h:c.done=true):c.stp l σ n=c:=by unfold CollectS.stp; rw [if_pos h]
theorem CollectS.stp_a (h:c.done=false) (h2:(c.climb.stp l σ).done=false):c.stp l σ n=⟨c.u,c.v,c.climb.stp l σ,c.now,c.last,c.second,c.done,c.rounds,IntKind.i64.wrap (c.steps+1)⟩:=by
 unfold CollectS.stp CollectS.next; rw [if_neg (by simp [h])]; dsimp only; rw [if_pos h2]
theorem CollectS.stp_b (h:c.done=false) (h2:(c.climb.stp l σ).done=true) (h3:c.second=false):c.stp l σ n=⟨c.u,c.v,za4 l c.v,⟨⟨(c.climb.stp l σ).root,(c.climb.stp l σ).version⟩,c.now.v,c.now.at_⟩,c.last,true,c.done,c.rounds,IntKind.i64.wrap (c.steps+1)⟩:=by
 unfold CollectS.stp CollectS.next; rw [if_neg (by simp [h])]; dsimp only; rw [if_neg (by simp [h2]),if_pos h3]
def CollectS.mid (l:Lay) (σ:M) (n:Int) (c:CollectS):CollectS:=⟨c.u,c.v,za4 l c.u,⟨c.now.u,⟨(c.climb.stp l σ).root,(c.climb.stp l σ).version⟩,n⟩,c.last,false,c.done,c.rounds,IntKind.i64.wrap (c.steps+1)⟩
theorem CollectS.stp_c (h:c.done=false) (h2:(c.climb.stp l σ).done=true) (h3:c.second=true):c.stp l σ n=(c.mid l σ n).over:=by
 unfold CollectS.stp CollectS.next; rw [if_neg (by simp [h])]; dsimp only; rw [if_neg (by simp [h2]),if_neg (by simp [h3])]; rfl
theorem CollectS.over_climb:c.over.climb=c.climb:=by unfold CollectS.over; split<;>rfl
def CollectS.cnt (l:Lay) (σ:M) (c:CollectS) (m:Cnt):Cnt:=if c.done then m else c.climb.cnt l σ m
theorem CollectS.cnt_d {m:Cnt} (h:c.done=true):c.cnt l σ m=m:=by unfold CollectS.cnt; rw [if_pos h]
theorem CollectS.cnt_n {m:Cnt} (h:c.done=false):c.cnt l σ m=c.climb.cnt l σ m:=by unfold CollectS.cnt; rw [if_neg (by simp [h])]
end
def zee (T:TypeId) (b cb:Nat) (l:Lay) (c:CollectS):Assn:=pt b (.cells #[.int .i64 l.V,.int .i64 l.S,.int .i64 l.T,.int .i64 c.u,.int .i64 c.v,.pointer (some ⟨cb,0,none⟩),.int .i64 c.now.u.root,.int .i64 c.now.u.version,.int .i64 c.now.v.root,.int .i64 c.now.v.version,.int .i64 c.now.at_,
 .int .i64 c.last.u.root,.int .i64 c.last.u.version,.int .i64 c.last.v.root,.int .i64 c.last.v.version,.int .i64 c.last.at_,.bool c.second,.bool c.done,.int .i64 c.rounds,.int .i64 c.steps] T)
def zal (T T1 T2:TypeId) (b:Nat) (l:Lay) (c:CollectS):Assn:=ex fun cb=>star (zee T b cb l c) (zaX T1 T2 cb l c.climb)
theorem zao {T T1 T2:TypeId} {b cb:Nat} {l:Lay} {c:CollectS} {h f g:HF} (s1:HF.sub f h) (s2:HF.sub g h) (hd:HF.dis f g) (h1:zee T b cb l c f) (h2:zaX T1 T2 cb l c.climb g):zal T T1 T2 b l c h:=⟨cb,f,g,s1,s2,hd,h1,h2⟩
end Go.Tm
namespace Go.Tm
open MemLike Eng
set_option linter.unusedSectionVars false
set_option linter.unusedVariables false
section
variable {l:Lay} {σ:M} {n:Nat} {p:Pen}
theorem zbQ (h:(l.node ((n+1:Nat):Int)).1.level=0):p.write (verN l p n σ) (l.field ((n+1:Nat):Int) 1) (IntKind.i64.wrap (pnew (verN l p n σ) (l.field ((n+1:Nat):Int) 1)+1))=verN l p (n+1) σ:=by rw [verN,if_pos (zmm h)]
theorem zbR (h:¬(l.node ((n+1:Nat):Int)).1.level=0):verN l p n σ=verN l p (n+1) σ:=by rw [verN,zml h]; rfl
theorem zmN {k:Int} (hk:0≤k∧k≤60):PenOk ⟨1,k⟩:=⟨by show (1:Int)≤1∧(1:Int)≤8; decide,by show 0≤k∧k≤16777215; omega⟩
end
section
variable {l:Lay} (hl:l.Ok) {σ σ2:M} {p:Pen} (hp:PenOk p) {pr:Int→Int} {g g2:G}
include hl hp
theorem Calm.upd {k:Int} (hC:Calm l pr p (fun _=>k) σ g) (ht:p.thread≤l.T) (hk:0≤k∧k≤65534) (hW2:Writ l pr p (parent l σ) (fun _=>k) σ2 g2) (hR2:Rch l p σ σ2):Upd l pr p (parent l σ) k (verN l p l.nodes.toNat σ2) g2 :=
 hW2.verN hl hp hk ht fun x hx=>by
  have e:gf l σ2 x 1=gf l σ x 1:=hR2.other hl (.inr (.inr ⟨x,1,hx.1,.inr (.inl rfl),rfl⟩))
  rw [e]; exact hC.pv x hx
end
end Go.Tm
namespace Go.Tm
open MemLike Eng
set_option linter.unusedSectionVars false
set_option linter.unusedVariables false
section
variable {l:Lay} {σ:M} {c:CollectS} {n:Int} {par rt:Int→Int}
theorem CollectS.stp_uv:(c.stp l σ n).u=c.u∧(c.stp l σ n).v=c.v:=by
 unfold CollectS.stp CollectS.next CollectS.over
 split
 ·exact ⟨rfl,rfl⟩
 ·split
  ·exact ⟨rfl,rfl⟩
  ·split
   ·exact ⟨rfl,rfl⟩
   ·split<;>exact ⟨rfl,rfl⟩
theorem CollectS.stp_steps (h:c.done=false):(c.stp l σ n).steps=IntKind.i64.wrap (c.steps+1):=by
 unfold CollectS.stp CollectS.next CollectS.over
 rw [if_neg (by simp [h])]
 split
 ·rfl
 ·split
  ·rfl
  ·split<;>rfl
theorem KInv.later {k K0 f e now now':Int} {J:Int→Bool} {st:Bool} (h:KInv l σ par rt k K0 J f e st now c) (hle:now≤now') (hb:now'≤100000000):KInv l σ par rt k K0 J f e st now' c:=by
 have hss:=h.ss
 exact ⟨h.uv,h.nd,h.ci,h.sb,⟨hss.1,by omega,hb⟩,h.fe,h.fe0,h.to,h.lv,h.nu,fun h1 h2 h3=>by obtain ⟨p1,p2,p3⟩:=h.pt h1 h2 h3; exact ⟨p1,⟨p2.1,by omega⟩,p3⟩,h.sm,h.rd⟩
def SI (l:Lay) (σ:M) (par rt:Int→Int) (kv:Int) (u v:Int) (n0:Int) (B s:Nat) (first:Int) (c:CollectS):Prop :=
 ((∃ f e st,KInv l σ par rt kv kv (fun _=>decide (rt (l.vertex 0 u)=rt (l.vertex 0 v))) f e st (n0+s) c∧zgn l par rt kv f st c+s≤B)∧c.u=u∧c.v=v∧c.steps=s∧(c.rounds=0∧first=0∨c.rounds=1∧first≠0∧c.last.at_=first)) ∨
 (c.done=true∧c.joined=decide (rt (l.vertex 0 u)=rt (l.vertex 0 v))∧c.rounds=2∧c.steps=s∧c.point=first∧s≤B∧1≤s)
variable (hl:l.Ok)
include hl
theorem SI.start (hS:SeenF l σ par rt) {u v:Int} (hu:0≤u∧u<l.V) (hv:0≤v∧v<l.V) {kv n0:Int} (hk:0≤kv∧kv≤1000000) (hn:0≤n0∧n0≤100000) :
  SI l σ par rt kv u v n0 (2 * ((2 * upH l par rt (l.vertex 0 u)+2)+(2 * upH l par rt (l.vertex 0 v)+2))) 0 0 (za8 l u v):=by
 obtain ⟨h1,h2⟩:=KInv.start hl hS hu hv (J:=fun _=>decide (rt (l.vertex 0 u)=rt (l.vertex 0 v))) hk
 exact .inl ⟨⟨_,_,_,h1.later (by show (0:Int)≤n0+((0:Nat):Int); omega) (by show n0+((0:Nat):Int)≤_; omega),by rw [h2]; omega⟩,rfl,rfl,rfl,.inl ⟨rfl,rfl⟩⟩
omit hl in
theorem SI.run {kv u v n0 first:Int} {B s:Nat} (h:SI l σ par rt kv u v n0 B s first c) (hd:c.done=false):CInv l σ c.climb∧s+1≤B∧c.steps=s:=by
 rcases h with ⟨⟨f,e,st,hK,hm⟩,_,_,hs,_⟩ | ⟨h,_⟩
 ·refine ⟨hK.ci,?_,hs⟩
  have:=zgw (l:=l) (par:=par) (rt:=rt) (c:=c.climb)
  unfold zgn at hm; omega
 ·rw [h] at hd; cases hd
omit hl in
theorem SI.over {kv u v n0 first:Int} {B s:Nat} (h:SI l σ par rt kv u v n0 B s first c) (hd:c.done=true):c.joined=decide (rt (l.vertex 0 u)=rt (l.vertex 0 v))∧c.rounds=2∧c.steps=s∧c.point=first∧s≤B∧1≤s:=by
 rcases h with ⟨⟨f,e,st,hK,_⟩,_⟩ | ⟨_,h⟩
 ·rw [hK.nd] at hd; cases hd
 ·exact h
theorem SI.step (hS:SeenF l σ par rt) {kv u v n0 first first':Int} (hv:∀ x,V0 l x→zaY l σ (l.field x 1)=kv) (hn:0≤n0∧n0≤100000) {B s:Nat} (hB:B≤1000000) (h:SI l σ par rt kv u v n0 B s first c) (hd:c.done=false)
  (hf:first'=if (c.stp l σ (n0+(s+1:Nat))).rounds=1∧first=0 then n0+(s+1:Nat) else first):SI l σ par rt kv u v n0 B (s+1) first' (c.stp l σ (n0+(s+1:Nat))):=by
 obtain ⟨_,hsB,_⟩:=h.run hd
 rcases h with ⟨⟨f,e,st,hK,hm⟩,hu,hvv,hs,hr⟩ | ⟨h,_⟩
 ·have e1:n0+((s+1:Nat):Int)=(n0+s)+1:=by omega
  rw [e1] at hf ⊢
  have huv:=CollectS.stp_uv (l:=l) (σ:=σ) (c:=c) (n:=n0+s+1)
  have hst:=CollectS.stp_steps (l:=l) (σ:=σ) (n:=n0+s+1) hd
  rw [hs,za9 (by omega)] at hst
  have hst:(c.stp l σ (n0+s+1)).steps=((s+1:Nat):Int):=by rw [hst]; omega
  have hfe:=hK.fe
  rcases hK.step hl hS hv (by rw [hu,hvv]) (by omega) with ⟨f',e',st',hK2,hm2,hr2,hlast⟩ | ⟨hE,hr2,hlast⟩
  ·have hfe2:=hK2.fe
   have hrd:=hK2.rd
   refine .inl ⟨⟨f',e',st',by rw [e1]; exact hK2,by omega⟩,huv.1.trans hu,huv.2.trans hvv,hst,?_⟩
   have hr1:(c.stp l σ (n0+s+1)).rounds≤1:=by cases st'<;>simp at hrd<;>omega
   rcases hr2 with hr2 | ⟨hr2,hat⟩
   ·rw [hr2,hlast hr2]
    rw [hr2] at hf
    rcases hr with ⟨a1,a2⟩ | ⟨a1,a2,a3⟩
    ·rw [if_neg (by omega)] at hf; exact .inl ⟨a1,by omega⟩
    ·rw [if_neg (by omega)] at hf; exact .inr ⟨a1,by omega,by omega⟩
   ·rcases hr with ⟨a1,a2⟩ | ⟨a1,a2,a3⟩
    ·rw [if_pos ⟨by omega,a2⟩] at hf; exact .inr ⟨by omega,by omega,by omega⟩
    ·omega
  ·have hrd:=hE.rd
   rcases hr with ⟨a1,a2⟩ | ⟨a1,a2,a3⟩
   ·omega
   ·rw [if_neg (by omega)] at hf
    refine .inr ⟨hE.dn,by rw [hE.jt,hu,hvv],by omega,hst,by rw [←hE.stp,hlast,a3,hf],hsB,by omega⟩
 ·rw [h] at hd; cases hd
end
end Go.Tm
namespace Go.Tm
open MemLike Eng
set_option linter.unusedSectionVars false
set_option linter.unusedVariables false
structure Op4 where
 kind:Int
 u:Int
 v:Int
 wait:Int
 deriving Inhabited,DecidableEq
def zjy (x:Op4):List Value:=[.int .i64 x.kind,.int .i64 x.u,.int .i64 x.v,.int .i64 x.wait]
def Op4.o3 (x:Op4):Op3:=⟨x.kind,x.u,x.v⟩
def ksN (l:Lay) (σ:M) (c:CollectS):Nat→CollectS
 | 0=>c
 | n+1=>(ksN l σ c n).stp l σ ((n+1:Nat):Int)
theorem zpk:(∀ k,k<7→(ksN l16 s16 (za8 l16 0 1) (k+1)).done=false)∧(ksN l16 s16 (za8 l16 0 1) 8).done=true∧(ksN l16 s16 (za8 l16 0 1) 8).joined=false∧(ksN l16 s16 (za8 l16 0 1) 8).point=4∧(ksN l16 s16 (za8 l16 0 1) 8).rounds=2∧(ksN l16 s16 (za8 l16 0 1) 8).steps=8:=by decide +kernel
section
variable {l:Lay} (hl:l.Ok) {σ σ2:M} {pr:Int→Int} {g g2:G} {k:Int}
include hl
theorem Born.calm0 (hB:Born l pr σ):Calm l pr ⟨1,0⟩ (fun _=>0) σ G0:=hB.calm hl (p:=⟨1,0⟩) ⟨by decide,zi4 hl⟩ rfl
end
theorem SI.step0 {l:Lay} (hl:l.Ok) {σ:M} {par rt:Int→Int} {c:CollectS} (hS:SeenF l σ par rt) {kv u v:Int} (hv:∀ x,V0 l x→zaY l σ (l.field x 1)=kv) {B s:Nat} (hB:B≤1000000) (h:∃ fi,SI l σ par rt kv u v 0 B s fi c) (hd:c.done=false):∃ fi,SI l σ par rt kv u v 0 B (s+1) fi (c.stp l σ ((s+1:Nat):Int)):=by
 obtain ⟨fi,h⟩:=h
 have:=h.step hl hS hv ⟨by decide,by decide⟩ hB hd rfl
 rw [Int.zero_add] at this
 exact ⟨_,this⟩
end Go.Tm
namespace Go.Tm
open MemLike Eng
set_option linter.unusedSectionVars false
set_option linter.unusedVariables false
section
variable {l:Lay} (hl:l.Ok) {σ σ2:M} {p:Pen} (hp:PenOk p) {pr:Int→Int} {g g2:G} {c:CollectS} {par rt par' rt':Int→Int}
def zlq (l:Lay) (σ σ2:M):Prop:=∀ t:Int,1≤t∧t≤l.T→get σ2 (l.state t)=get σ (l.state t)
include hl in
theorem zlw {t:Int} (ht:1≤t∧t≤l.T) {x f:Int} (hx:l.nd x) (hf:0≤f∧f<7):l.state t≠l.field x f:=fun e=>by
 have h1:=za5 hl hx hf
 have h4:=zcc hl
 have h5:l.heads=l.T+1+l.S * 7:=rfl
 rw [zcq hl ht] at e; omega
include hl hp in
theorem Calm.updSt {k:Int} (hC:Calm l pr p (fun _=>k) σ g) (hk:0≤k∧k≤65534) (hz:σ2.size=l.cells) (hR2:Rch l p σ σ2):zlq l σ (verN l p l.nodes.toNat σ2):=fun t ht=>by
 have hn:=za0 hl
 have h1:=(zi2 hl hp hz hk (fun x hx=>by
  have e:gf l σ2 x 1=gf l σ x 1:=hR2.other hl (.inr (.inr ⟨x,1,hx.1,.inr (.inl rfl),rfl⟩))
  rw [e]; exact hC.pv x hx) l.nodes.toNat (by omega)).2.1 (l.state t) fun x hx=>zlw hl ht hx.1 (by decide)
 rw [h1]
 exact hR2.other hl (by rw [zcq hl ht]; exact .inl ⟨by omega,by omega⟩)
def jf (d:Array Bool):Int→Bool:=fun i=>d[(i - 1).toNat]!
theorem zpH {d:Array Bool} {b:Bool}:jf (d++#[b]) ((d.size:Int)+1)=b:=by
 unfold jf
 rw [show ((d.size:Int)+1 - 1).toNat=d.size by omega,app_get!,if_neg (by omega),Nat.sub_self]; rfl
theorem zpG {d:Array Bool} {b:Bool} {i:Int} (h:1≤i∧i≤d.size):jf (d++#[b]) i=jf d i:=by
 unfold jf
 rw [app_get!,if_pos (by omega)]
theorem KInv.jc {k K0 f e now:Int} {J J':Int→Bool} {st:Bool} (h:KInv l σ par rt k K0 J f e st now c) (hJ:∀ i,1≤i∧i≤now→J' i=J i):KInv l σ par rt k K0 J' f e st now c :=
 ⟨h.uv,h.nd,h.ci,h.sb,h.ss,h.fe,h.fe0,h.to,h.lv,h.nu,fun h1 h2 h3=>by obtain ⟨p1,p2,p3⟩:=h.pt h1 h2 h3; exact ⟨p1,p2,by rw [hJ _ p2]; exact p3⟩,h.sm,h.rd⟩
def PIv (l:Lay) (σ:M) (par rt:Int→Int) (kv K0:Int) (u v:Int) (now:Nat) (c:CollectS) (d:Array Bool):Prop :=
 ((∃ f e st,KInv l σ par rt kv K0 (jf d) f e st now c)∧d.size=now∧c.u=u∧c.v=v) ∨
 (c.done=true∧(1≤c.point∧c.point≤d.size)∧c.joined=jf d c.point∧c.rounds≤2 * (kv - K0)+2∧d.size≤now)
def zeY (c:CollectS) (d:Array Bool) (b:Bool):Array Bool:=if c.done then d else d++#[b]
include hl in
theorem PIv.start (hS:SeenF l σ par rt) {u v:Int} (hu:0≤u∧u<l.V) (hv:0≤v∧v<l.V) {kv:Int} (hk:0≤kv∧kv≤1000000):PIv l σ par rt kv kv u v 0 (za8 l u v) #[] :=
 .inl ⟨⟨_,_,_,(KInv.start hl hS hu hv hk).1⟩,rfl,rfl,rfl⟩
include hl in
theorem PIv.step (hS:SeenF l σ par rt) {kv K0 u v:Int} (hv:∀ x,V0 l x→zaY l σ (l.field x 1)=kv) {now:Nat} (hn:now≤1000000) {d:Array Bool} (h:PIv l σ par rt kv K0 u v now c d) :
  PIv l σ par rt kv K0 u v (now+1) (c.stp l σ ((now+1:Nat):Int)) (zeY c d (decide (rt (l.vertex 0 u)=rt (l.vertex 0 v))))∧((c.stp l σ ((now+1:Nat):Int)).done=false→zkF σ (c.stp l σ ((now+1:Nat):Int)).climb):=by
 rcases h with ⟨⟨f,e,st,hK⟩,hz,hu,hvv⟩ | ⟨hd,hp,hj,hr,hz⟩
 ·unfold zeY
  rw [hK.nd,if_neg (by decide)]
  obtain ⟨b,hb⟩:∃ b,decide (rt (l.vertex 0 u)=rt (l.vertex 0 v))=b:=⟨_,rfl⟩
  rw [hb]
  have hK1:KInv l σ par rt kv K0 (jf (d++#[b])) f e st now c:=hK.jc fun i hi=>zpG (by omega)
  have e1:((now+1:Nat):Int)=(now:Int)+1:=by omega
  have hJ:jf (d++#[b]) ((now:Int)+1)=decide (rt (l.vertex 0 c.u)=rt (l.vertex 0 c.v)):=by rw [←hz,zpH,hu,hvv,hb]
  refine ⟨?_,fun hd=>by rw [e1] at hd ⊢; exact hK.fresh hl hS hd⟩
  have huv:=CollectS.stp_uv (l:=l) (σ:=σ) (c:=c) (n:=(now:Int)+1)
  rw [e1]
  rcases hK1.step hl hS hv hJ (by omega) with ⟨f',e',st',hK2,_⟩ | ⟨hE,_⟩
  ·refine .inl ⟨⟨f',e',st',?_⟩,by simp [hz],huv.1.trans hu,huv.2.trans hvv⟩
   have e2:((now+1:Nat):Int)=(now:Int)+1:=by omega
   rw [e2]; exact hK2
  ·have hpt:=hE.pt
   exact .inr ⟨hE.dn,⟨hpt.1,by simp; omega⟩,hE.jn,by have:=hE.rd; omega,by simp; omega⟩
 ·unfold zeY
  rw [CollectS.stp_d hd,hd,if_pos rfl]
  exact ⟨.inr ⟨hd,hp,hj,hr,by omega⟩,fun h=>by cases h⟩
theorem PIv.same {kv K0 u v:Int} {now:Nat} {d:Array Bool} (h:PIv l σ par rt kv K0 u v now c d) (hm:∀ x f,V0 l x→(f=1∨f=2)→zaY l σ2 (l.field x f)=zaY l σ (l.field x f)) (hst:zlq l σ σ2):PIv l σ2 par rt kv K0 u v now c d:=by
 rcases h with ⟨⟨f,e,st,hK⟩,h⟩ | h
 ·exact .inl ⟨⟨f,e,st,hK.same hm hst⟩,h⟩
 ·exact .inr h
theorem PIv.commit {kv K0 u v:Int} {now:Nat} {d:Array Bool} (h:PIv l σ par rt kv K0 u v now c d) (hf:c.done=false→zkF σ c.climb)
  (hw:∀ x f,V0 l x→(f=1∨f=2)→1≤(zaf (gf l σ x f)).1.thread→zcA (zaf (gf l σ x f)).1 (get σ2 (l.state (zaf (gf l σ x f)).1.thread))=zaY l σ2 (l.field x f)) (hk:kv+1≤1000000):PIv l σ2 par' rt' (kv+1) K0 u v now c d:=by
 rcases h with ⟨⟨f,e,st,hK⟩,h⟩ | ⟨h1,h2,h3,h4,h5⟩
 ·exact .inl ⟨⟨f,e,st,hK.commit (hf hK.nd) hw hk⟩,h⟩
 ·exact .inr ⟨h1,h2,h3,by omega,h5⟩
def PIf (l:Lay) (σ:M) (par rt:Int→Int) (kv K0:Int) (u v:Int) (B n now:Nat) (c:CollectS) (d:Array Bool):Prop :=
 ((∃ f e st,KInv l σ par rt kv K0 (jf d) f e st now c∧zgn l par rt kv f st c+n≤B)∧d.size=now∧c.u=u∧c.v=v) ∨
 (c.done=true∧(1≤c.point∧c.point≤d.size)∧c.joined=jf d c.point∧c.rounds≤2 * (kv - K0)+2∧d.size≤now)
include hl in
theorem PIv.fin (hS:SeenF l σ par rt) {kv K0 u v:Int} {now:Nat} {d:Array Bool} (h:PIv l σ par rt kv K0 u v now c d):PIf l σ par rt kv K0 u v (12 * l.nodes.toNat+12) 0 now c d:=by
 have hnb:=za0 hl
 rcases h with ⟨⟨f,e,st,hK⟩,h⟩ | h
 ·refine .inl ⟨⟨f,e,st,hK,?_⟩,h⟩
  have h1:=(hS.upH hl hK.ci.v0).1
  have h2:=(hS.upH hl (zbi hl (σ:=σ) hK.uv.1).2).1
  have h3:=(hS.upH hl (zbi hl (σ:=σ) hK.uv.2).2).1
  have hc:crem l par rt c.climb≤2 * l.nodes.toNat+2:=by unfold crem; split<;>split<;>omega
  unfold zgn
  obtain ⟨a,ha⟩:∃ a,upH l par rt (l.vertex 0 c.u)=a:=⟨_,rfl⟩
  obtain ⟨b,hb⟩:∃ b,upH l par rt (l.vertex 0 c.v)=b:=⟨_,rfl⟩
  rw [ha] at h2 ⊢
  rw [hb] at h3 ⊢
  obtain ⟨m,hm⟩:∃ m,2 * a+2+(2 * b+2)=m:=⟨_,rfl⟩
  rw [hm]
  have hm2:m≤4 * l.nodes.toNat+4:=by omega
  obtain ⟨q,hq⟩:∃ q,(if f=kv then (if st=true then 0 else 1) else 2:Nat)=q:=⟨_,rfl⟩
  have hq2:q≤2:=by rw [←hq]; split<;>(try split)<;>omega
  rw [hq]
  have:q * m≤2 * m:=Nat.mul_le_mul_right _ hq2
  split<;>omega
 ·exact .inr h
theorem PIf.run {kv K0 u v:Int} {B n now:Nat} {d:Array Bool} (h:PIf l σ par rt kv K0 u v B n now c d) (hd:c.done=false):n+1≤B:=by
 rcases h with ⟨⟨f,e,st,hK,hm⟩,_⟩ | ⟨h,_⟩
 ·have:=zgw (l:=l) (par:=par) (rt:=rt) (c:=c.climb)
  unfold zgn at hm; omega
 ·rw [h] at hd; cases hd
theorem PIf.over {kv K0 u v:Int} {B n now:Nat} {d:Array Bool} (h:PIf l σ par rt kv K0 u v B n now c d) (hd:c.done=true):(1≤c.point∧c.point≤d.size)∧c.joined=jf d c.point∧c.rounds≤2 * (kv - K0)+2∧d.size≤now:=by
 rcases h with ⟨⟨f,e,st,hK,_⟩,_⟩ | ⟨_,h⟩
 ·rw [hK.nd] at hd; cases hd
 ·exact h
include hl in
theorem PIf.step (hS:SeenF l σ par rt) {kv K0 u v:Int} (hv:∀ x,V0 l x→zaY l σ (l.field x 1)=kv) {B n now:Nat} (hn:now≤1000000) {d:Array Bool} (h:PIf l σ par rt kv K0 u v B n now c d) (hd:c.done=false) :
  PIf l σ par rt kv K0 u v B (n+1) (now+1) (c.stp l σ ((now+1:Nat):Int)) (zeY c d (decide (rt (l.vertex 0 u)=rt (l.vertex 0 v)))):=by
 rcases h with ⟨⟨f,e,st,hK,hm⟩,hz,hu,hvv⟩ | ⟨hd2,_⟩
 ·unfold zeY
  rw [hK.nd,if_neg (by decide)]
  obtain ⟨b,hb⟩:∃ b,decide (rt (l.vertex 0 u)=rt (l.vertex 0 v))=b:=⟨_,rfl⟩
  rw [hb]
  have hK1:KInv l σ par rt kv K0 (jf (d++#[b])) f e st now c:=hK.jc fun i hi=>zpG (by omega)
  have e1:((now+1:Nat):Int)=(now:Int)+1:=by omega
  have hJ:jf (d++#[b]) ((now:Int)+1)=decide (rt (l.vertex 0 c.u)=rt (l.vertex 0 c.v)):=by rw [←hz,zpH,hu,hvv,hb]
  have huv:=CollectS.stp_uv (l:=l) (σ:=σ) (c:=c) (n:=(now:Int)+1)
  rw [e1]
  rcases hK1.step hl hS hv hJ (by omega) with ⟨f',e',st',hK2,hm2,_⟩ | ⟨hE,_⟩
  ·refine .inl ⟨⟨f',e',st',?_,by omega⟩,by simp [hz],huv.1.trans hu,huv.2.trans hvv⟩
   rw [e1]; exact hK2
  ·have hpt:=hE.pt
   exact .inr ⟨hE.dn,⟨hpt.1,by simp; omega⟩,hE.jn,by have:=hE.rd; omega,by simp; omega⟩
 ·rw [hd2] at hd; cases hd
end
theorem Fn.pack {P:Program} {f:FuncId} {args:List Value} {X:Type} {A B A' B':X→Assn} {Cs Cs':List Assn} {r:Value} (h:∀ x,Eng.Fn P f args (A x :: B x :: Cs) (fun v Bs=>v=r∧∃ y,Bs=A' y :: B' y :: Cs')):FnD P f args (ex (fun x=>star (A x) (B x)) :: Cs) r (ex (fun y=>star (A' y) (B' y)) :: Cs'):=by
 intro w0 R w hs
 obtain ⟨x,hx⟩:=hs.head_ex
 refine (h x w0 R w hx.apart2).mono ?_
 rintro e w' ⟨v,Bs,he,⟨rfl,y,rfl⟩,hs'⟩
 exact ⟨_,_,he,⟨rfl,rfl⟩,hs'.join2.head fun z hz=>⟨y,hz⟩⟩
def jbA (T E:TypeId) (b:Nat) (d:Array Bool):Assn:=ex fun v:Value=>star (pt b (.cells #[v] T)) (ownA encB 1 E v d)
end Go.Tm
namespace Go.Tm
open MemLike Eng
set_option linter.unusedSectionVars false
set_option linter.unusedVariables false
section
variable {l:Lay} (hl:l.Ok) {σ σ2:M} {pr:Int→Int} {g g2:G} {c:CollectS} {rt:Int→Int} {k K0 u v:Int} {now:Nat} {d:Array Bool}
include hl
theorem Calm.ver_ {ver:Int→Int} {p:Pen} (hC:Calm l pr p ver σ g) {x:Int} (hx:V0 l x):zaY l σ (l.field x 1)=ver x:=(hC.pv x hx).means
theorem Calm.seen_ {ver:Int→Int} {p:Pen} (hC:Calm l pr p ver σ g):∃ rt,SeenF l σ (parent l σ) rt:=by
 obtain ⟨F,_,h2,_,_⟩:=hC.rt.rows hl
 exact ⟨fun x=>(F x).root,hC.seen hl fun x hx=>(h2 x hx).2⟩
theorem PIv.write (hk:0≤k∧k≤60) (hC:Calm l pr ⟨1,k⟩ (fun _=>k) σ g) (hU:Upd l pr ⟨1,k⟩ (parent l σ) k σ2 g2) (hst:zlq l σ σ2) (hS:SeenF l σ (parent l σ) rt) (h:PIv l σ (parent l σ) rt k K0 u v now c d) :
  SeenF l σ2 (parent l σ) rt∧(∀ x,V0 l x→zaY l σ2 (l.field x 1)=k)∧PIv l σ2 (parent l σ) rt k K0 u v now c d:=by
 have ht:=zi4 hl
 have hS2:=hU.w.seen hl (zmN hk) ht hS.up
 have hv2:∀ x,V0 l x→zaY l σ2 (l.field x 1)=k:=fun x hx=>zjP hl (zmN hk) hU.w.vn ht hU.w.st hx
 exact ⟨hS2,hv2,h.same (fun x f hx hf=>by
  rcases hf with rfl | rfl
  ·rw [hv2 x hx,hC.ver_ hl hx]
  ·rw [hS2.mn x hx,hS.mn x hx]) hst⟩
theorem PIv.comm (hk:0≤k∧k≤60) {par:Int→Int} (hU:Upd l pr ⟨1,k⟩ par k σ2 g2) (h:PIv l σ2 par rt k K0 u v now c d) (hf:c.done=false→zkF σ2 c.climb) :
  Calm l pr ⟨1,k+1⟩ (fun _=>k+1) (zbs l ⟨1,k⟩ true σ2) g2∧∃ rt',SeenF l (zbs l ⟨1,k⟩ true σ2) (parent l (zbs l ⟨1,k⟩ true σ2)) rt'∧PIv l (zbs l ⟨1,k⟩ true σ2) (parent l (zbs l ⟨1,k⟩ true σ2)) rt' (k+1) K0 u v now c d:=by
 obtain ⟨h1,_,h3⟩:=hU.commit hl (zmN hk) (zi4 hl) (by show k+1≤16777215; omega)
 obtain ⟨rt',hS'⟩:=h1.seen_ hl
 exact ⟨h1,rt',hS',h.commit hf h3 (by omega)⟩
end
theorem TC.close {w0:World} {R:Assn} {n:Nat} {Q:Exit→Act→World→Prop} {env:List (Nat×Value)} {L:List (Nat×Assn)} {x:Code} {P:Program} (k m:Nat) {A B:Assn} (C:Assn) (hne:m≠k) (hA:lk L k=some A) (hB:lk L m=some B) (hC:∀ h f g:HF,HF.sub f h→HF.sub g h→HF.dis f g→A f→B g→C h) (h:TC P w0 R n x Q env ((m,emp) :: (k,C) :: L)):TC P w0 R n x Q env L :=
 fun a w ha hs=>h a w ha (zi9 hs hne hA hB hC)
theorem zrU {T E:TypeId} {b:Nat} {v:Value} {d:Array Bool} {h f g:HF} (s1:HF.sub f h) (s2:HF.sub g h) (hd:HF.dis f g) (h1:pt b (.cells #[v] T) f) (h2:ownA encB 1 E v d g):jbA T E b d h:=⟨v,f,g,s1,s2,hd,h1,h2⟩
theorem zix {c:CollectS} {d:Array Bool} {b:Bool}:(zeY c d b).size≤d.size+1:=by unfold zeY; split<;>simp
end Go.Tm
