import Derived.Test.YtabjfnfglcghfaaGreatEngC
set_option linter.unusedVariables false
set_option linter.unusedSimpArgs false
set_option linter.unusedSectionVars false
namespace Go.Tm
open MemLike Eng
def pw:Nat->Int
 | 0=>1
 | n+1=>pw n * 2
structure Nm where
 k:Int
 a:Int
 b:Int
 c:Int
 deriving DecidableEq,Inhabited
instance (l:Lay) (x:Int):Decidable (l.nd x):=by unfold Lay.nd; infer_instance
def Lay.posI (l:Lay) (n:Nm):Int :=
 if n.c≠0 then -1
 else if n.k=1 then (if 1<=n.a/\n.a<=l.T/\n.b=0 then n.a - 1 else -1)
 else if n.k=2 then (if n.a=0/\n.b=0 then l.T else -1)
 else if n.k=3\/n.k=4\/n.k=5 then (if (0<=n.a/\n.a<l.S)/\n.b=0 then l.T+1+n.a * 7+(n.k - 3) else -1)
 else if n.k=6 then (if (0<=n.a/\n.a<l.S)/\(n.b=0\/n.b=1) then l.T+1+n.a * 7+(3+n.b) else -1)
 else if n.k=7 then (if (0<=n.a/\n.a<l.S)/\(n.b=0\/n.b=1) then l.T+1+n.a * 7+(5+n.b) else -1)
 else if n.k=8 then (if (0<=n.a/\n.a<l.V)/\0<=n.b/\n.b<l.lev then l.head n.a n.b else -1)
 else if n.k=9 then (if 0<=n.a/\n.a<n.b/\n.b<l.V then l.edge n.a n.b else -1)
 else if n.k=10 then (if l.nd n.a/\0<=n.b/\n.b<7 then l.field n.a n.b else -1)
 else -1
section
variable {l:Lay} (hl:l.Ok)
include hl
omit hl
def NI (l:Lay) (d:Array Nm):Prop:=∀ j,j<d.size->l.posI d[j]! =j
theorem NI.app {d e:Array Nm} (h:NI l d) (he:∀ i,i<e.size->l.posI e[i]! =d.size+i):NI l (d++e):=fun j hj=>by
 by_cases hlt:j<d.size
 ·rw [get!_app hlt]; exact h j hlt
 ·have e1:j=d.size+(j - d.size):=by omega
  have h2:j - d.size<e.size:=by simp at hj; omega
  rw [e1,get!_app2 h2,he _ h2]; omega
include hl
theorem zvh {s:Int} (h:0<=s/\s<l.S):l.posI ⟨3,s,0,0⟩=l.T+1+s * 7/\l.posI ⟨4,s,0,0⟩=l.T+1+s * 7+1/\l.posI ⟨5,s,0,0⟩=l.T+1+s * 7+2/\l.posI ⟨6,s,0,0⟩=l.T+1+s * 7+3/\l.posI ⟨6,s,1,0⟩=l.T+1+s * 7+4/\l.posI ⟨7,s,0,0⟩=l.T+1+s * 7+5/\l.posI ⟨7,s,1,0⟩=l.T+1+s * 7+6:=by
 unfold Lay.posI; simp [h]
theorem zvj {v i:Int} (hv:0<=v/\v<l.V) (hi:0<=i/\i<l.lev):l.posI ⟨8,v,i,0⟩=l.head v i:=by unfold Lay.posI; simp [hv,hi]
theorem NI.slot {d:Array Nm} {s:Int} (h:NI l d) (hs:0<=s/\s<l.S) (hd:d.size=l.T+1+s * 7):NI l (d++#[⟨3,s,0,0⟩,⟨4,s,0,0⟩,⟨5,s,0,0⟩,⟨6,s,0,0⟩,⟨6,s,1,0⟩,⟨7,s,0,0⟩,⟨7,s,1,0⟩]):=h.app fun i hi=>by
 obtain ⟨p0,p1,p2,p3,p4,p5,p6⟩:=zvh hl hs
 match i,hi with
 | 0,_=>show l.posI ⟨3,s,0,0⟩=_; omega
 | 1,_=>show l.posI ⟨4,s,0,0⟩=_; omega
 | 2,_=>show l.posI ⟨5,s,0,0⟩=_; omega
 | 3,_=>show l.posI ⟨6,s,0,0⟩=_; omega
 | 4,_=>show l.posI ⟨6,s,1,0⟩=_; omega
 | 5,_=>show l.posI ⟨7,s,0,0⟩=_; omega
 | 6,_=>show l.posI ⟨7,s,1,0⟩=_; omega
structure NmOk (l:Lay) (n:Nm) (x:Int):Prop where
 as:(n.k=1/\n.c=0/\l.okV n.a n.b/\l.vertex n.a n.b=x)\/(n.k=2/\l.okA n.a n.b n.c/\l.arc n.a n.b n.c=x)
def NN (l:Lay) (d:Array Nm):Prop:=∀ j,j<d.size->NmOk l d[j]! ((j:Int)+1)
omit hl
theorem NN.app {d e:Array Nm} (h:NN l d) (he:∀ i,i<e.size->NmOk l e[i]! ((d.size:Int)+i+1)):NN l (d++e):=fun j hj=>by
 by_cases hlt:j<d.size
 ·rw [get!_app hlt]; exact h j hlt
 ·have e1:j=d.size+(j - d.size):=by omega
  have h2:j - d.size<e.size:=by simp at hj; omega
  have:=he _ h2
  rw [e1,get!_app2 h2]
  have e3:(((d.size+(j - d.size):Nat):Int))+1=(d.size:Int)+((j - d.size:Nat):Int)+1:=by omega
  rw [e3]; exact this
include hl
omit hl
include hl
end
section
variable {l:Lay} (hl:l.Ok)
include hl
end
def zqR (l:Lay) (σ:M) (n:Nm):Int:=if 0<=l.posI n then get σ (l.posI n) else 0
section
variable {l:Lay} (hl:l.Ok) {σ:M} {g:G} {d:Array EdR}
include hl
omit hl
end
theorem quoU {a b:Int} (h0:0<=a) (hb:0<b) (ha:a<18446744073709551616):IntKind.u64.wrap (a.tdiv b)=a / b:=by
 rw [Int.tdiv_eq_ediv_of_nonneg h0]
 exact zuJ ⟨by have:=Int.ediv_nonneg h0 (Int.le_of_lt hb); omega,by have:=Int.ediv_le_self b h0; omega⟩
section
variable {l:Lay} (hl:l.Ok) {σ:M} {mk pr:Int->Int} {F:Int->T} {L:Int->Int->List Int}
include hl
theorem repU.wOk {t:T} (h:repU l mk σ t) {x:Int} (hx:x∈t.list):Go.Tm.wOk l σ x:=by
 induction t with
 | nil=>cases hx
 | node a y b iha ihb =>
  obtain ⟨h1,h2,h3,h4,h5,h6,h7,h8,h9⟩:=h
  rcases T.mem_node.1 hx with hx | rfl | hx
  ·exact iha h6 hx
  ·exact h4
  ·exact ihb h7 hx
theorem par0 (hF:Forest l pr mk σ F) {x:Int} (hx:l.nd x) (hi:(l.node x).1.level=0):gf l σ x 2 % 65536=parent l σ x:=by
 have hs:zbJ l x=true:=by unfold zbJ; simp [hi]
 have hw:=((hF.rep x hx).wOk hl (hF.mem x hx)).1 hs
 have hr:=zlM σ (l.field x 2)
 unfold parent pnew
 rw [Zp hs]
 rw [(zcg hw).2,zhA hr]
theorem NmOk.inj {n m:Nm} {x:Int} (h:NmOk l n x) (h':NmOk l m x):n=m:=by
 obtain ⟨k,a,b,c⟩:=n
 obtain ⟨k',a',b',c'⟩:=m
 rcases h.as with ⟨e,e2,e3,e4⟩ | ⟨e,e3,e4⟩<;>rcases h'.as with ⟨e',e2',e3',e4'⟩ | ⟨e',e3',e4'⟩<;>dsimp only at *
 ·have:=(zcW hl e3 e3').1 (e4.trans e4'.symm)
  rw [e,e',e2,e2',this.1,this.2]
 ·exact absurd (e4.trans e4'.symm) (zaN hl e3 e3')
 ·exact absurd (e4'.trans e4.symm) (zaN hl e3' e3)
 ·have:=(zbH hl e3 e3').1 (e4.trans e4'.symm)
  rw [e,e',this.1,this.2.1,this.2.2]
omit hl
include hl
theorem ListOk.at_ (h:ListOk l σ L) {i v:Int} (hv:l.okV i v):zqR l σ ⟨8,v,i,0⟩=fst (L v i) 0:=by
 have:=zez hl hv.2 hv.1
 have ho:=zb7 hl
 unfold zqR; rw [zvj hl hv.2 hv.1,Zp (by omega)]; exact h.head i v hv
omit hl
end
theorem zew {α:Type} [Inhabited α] {enc:α->List Value} {m e g c n:Nat} {d:Array α} (hn:d.size=n):zbj (ownA enc m e (.slice (some ⟨g,0,none⟩) n c) d) enc m g 0 n (fun i=>d[i]!):=by
 subst hn; exact zaP fun _=>Z
def isB (d:Array EdR) (i v:Int) (j:Nat):Prop:=d[j]!.tr=false/\d[j]!.lv=i/\(d[j]!.u=v\/d[j]!.v=v)
instance (d:Array EdR) (i v:Int) (j:Nat):Decidable (isB d i v j):=by unfold isB; infer_instance
section
variable {l:Lay} (hl:l.Ok) {σ:M} {mk pr:Int->Int} {F:Int->T} {g:G} {L:Int->Int->List Int} {d:Array EdR}
include hl
omit hl
include hl
omit hl
end
instance:Inhabited T:=⟨.nil⟩
def encB (x:Bool):List Value:=[.bool x]
section
variable {l:Lay} (hl:l.Ok) {σ:M} {mk pr:Int->Int} {F:Int->T} {g:G} {L:Int->Int->List Int} {d:Array EdR}
include hl
omit hl
include hl
omit hl
def both (A B:Assn):Assn:=fun h=>(∃ f,HF.sub f h/\A f)/\∃ g,HF.sub g h/\B g
section
variable {a b:T} {x:Int} {m n i q:Nat}
end
end
theorem zvV (x:Int):(encU x).length=1/\∀ u∈encU x,u.oneCell'=true:=⟨rfl,by intro u hu; simp only [encU,List.mem_cons,List.not_mem_nil,or_false] at hu; subst hu; rfl⟩
theorem zjZ {s:Int} {P:Int->Prop} {eu ev:Int->Int} {x y:Int}:Conn (fun q=>q=s\/P q) eu ev x y↔Conn P eu ev x y\/(Conn P eu ev x (eu s)/\Conn P eu ev (ev s) y)\/(Conn P eu ev x (ev s)/\Conn P eu ev (eu s) y):=by
 constructor
 ·intro h
  induction h with
  | refl=>exact .inl (.refl _)
  | @step w z hw q hq he ih =>
   rcases hq with rfl | hq
   ·rcases he with ⟨rfl,rfl⟩ | ⟨rfl,rfl⟩
    ·rcases ih with h | ⟨h1,h2⟩ | ⟨h1,h2⟩
     ·exact .inr (.inl ⟨h,.refl _⟩)
     ·exact .inr (.inl ⟨h1,.refl _⟩)
     ·exact .inl h1
    ·rcases ih with h | ⟨h1,h2⟩ | ⟨h1,h2⟩
     ·exact .inr (.inr ⟨h,.refl _⟩)
     ·exact .inl h1
     ·exact .inr (.inr ⟨h1,.refl _⟩)
   ·have st:∀ {a},Conn P eu ev a w->Conn P eu ev a z:=fun c=>.step c q hq he
    rcases ih with h | ⟨h1,h2⟩ | ⟨h1,h2⟩
    ·exact .inl (st h)
    ·exact .inr (.inl ⟨h1,st h2⟩)
    ·exact .inr (.inr ⟨h1,st h2⟩)
 ·have up:∀ {a b},Conn P eu ev a b->Conn (fun q=>q=s\/P q) eu ev a b:=fun c=>c.mono fun q hq=>.inr hq
  have e:Conn (fun q=>q=s\/P q) eu ev (eu s) (ev s):=.step (.refl _) s (.inl Z) (.inl ⟨Z,Z⟩)
  rintro (h | ⟨h1,h2⟩ | ⟨h1,h2⟩)
  ·exact up h
  ·exact ((up h1).trans e).trans (up h2)
  ·exact ((up h1).trans e.symm).trans (up h2)
theorem zh6 {α:Type} {p q r:α->Bool}:∀ {l:List α},(∀ x∈l,r x=(p x || q x))->(∀ x∈l,p x=true->q x=false)->l.countP r=l.countP p+l.countP q
 | [],_,_=>rfl
 | x :: l,h,hd=>by
  have ih:=zh6 (l:=l) (fun y hy=>h y (by simp [hy])) (fun y hy=>hd y (by simp [hy]))
  have h1:=h x (by simp); have h2:=hd x (by simp)
  simp only [List.countP_cons,ih,h1]
  cases hp:p x<;>cases hq:q x<;>simp_all<;>omega
theorem zgQ {α:Type} {p:α->Bool}:∀ {l:List α},(∀ x∈l,p x=false)->l.countP p=0
 | [],_=>rfl
 | x :: l,h=>by rw [List.countP_cons,zgQ fun y hy=>h y (by simp [hy]),h x (by simp)]; rfl
theorem zqM {α:Type} {p q:α->Bool} {l:List α} (h:∀ x∈l,p x=q x):l.countP p=l.countP q:=List.countP_congr fun x hx=>by rw [h x hx]
theorem zzy {a b:Prop} [Decidable a] [Decidable b] (h:a↔b):decide a=decide b:=by
 by_cases hb:b<;>simp [h,hb]
section
open Classical
noncomputable def ne (l:Lay) (g:G) (i u:Int):Nat:=(List.range l.S).countP fun q:Nat=>decide (Pg g i q/\Jn g i u (g.u q))
section
variable {l:Lay} (hl:l.Ok) {σ:M} {mk pr:Int->Int} {F:Int->T} {g:G} {L:Int->Int->List Int} {d:Array EdR}
include hl
end
end
section
variable {l:Lay} (hl:l.Ok) {σ:M} {mk pr:Int->Int} {F:Int->T} {g:G} {L:Int->Int->List Int} {d:Array EdR}
include hl
omit hl
end
section
variable {l:Lay} (hl:l.Ok) {σ:M} {mk pr:Int->Int} {F:Int->T} {g:G} {L:Int->Int->List Int} {d:Array EdR}
def UsI (d:Array EdR) (k:Nat) (D:Array Int):Prop:=∀ s,s<D.size->D[s]! =if ∃ q,q<k/\d[q]!.slot=(s:Int) then 1 else 0
theorem UsI.b {k s:Nat} {D:Array Int} (h:UsI d k D) (hs:s<D.size):0<=D[s]!/\D[s]!<=1:=by rw [h s hs]; split<;>omega
include hl
end
end Go.Tm
namespace Go.Tm
open MemLike Eng
section
variable {l:Lay} (hl:l.Ok) {pr:Int->Int} {σ:M} {g g':G} {d:Array EdR}
end
theorem zau.edges {l:Lay} {pr:Int->Int} {σ:M} {g:G} (h:zau l pr σ g):EdgeOk l σ g:=by
 obtain ⟨F,mk,L,hI⟩:=h; exact hI.edges
section
variable {l:Lay} (hl:l.Ok) {p:Pen} (hp:PenOk p) {pr:Int->Int} {σ:M} {g:G} {d:Array EdR}
include hl hp
omit hp
end
theorem znY {l:Lay} (hl:l.Ok) {i:Nat}:((i:Int)<l.lev->1<=l.V / 2 ^ i)/\(l.lev<=(i:Int)+1->l.V / 2 ^ i<=1):=by
 have hb1:=hl.1; have hb2:=hl.2.1
 have lb:=zbz hl
 have key:∀ V:Nat,V<=16->1<=V->(∀ i:Nat,i<6->(((i:Int)<levI V->1<=V / 2 ^ i)/\(levI V<=(i:Int)+1->V / 2 ^ i<=1))):=by decide
 have h:=key l.V (by omega) (by omega)
 by_cases hi:i<6
 ·exact h i hi
 ·refine ⟨fun h=>by omega,fun _=>?_⟩
  have h1:l.V<2 ^ 6:=by have:(2:Nat) ^ 6=64:=rfl; omega
  have h2:(2:Nat) ^ 6<=2 ^ i:=Nat.pow_le_pow_right (by decide) (by omega)
  rw [Nat.div_eq_of_lt (by omega)]; omega
theorem Jn.down {g:G} {i j x y:Int} (h:Jn g i x y) (hj:j<=i):Jn g j x y:=h.mono fun q hq=>⟨hq.1,hq.2.1,by have:=hq.2.2; omega⟩
theorem Jn.trans {g:G} {i x y z:Int} (h:Jn g i x y) (h':Jn g i y z):Jn g i x z:=Conn.trans h h'
theorem Jn.congr {g g':G} {i x y:Int} (hP:∀ q,Pg g' i q↔Pg g i q) (he:∀ q,Pg g i q->g'.u q=g.u q/\g'.v q=g.v q):Jn g' i x y↔Jn g i x y :=
 ⟨fun c=>(c.mono fun q hq=>(hP q).1 hq).ends fun q hq=>he q hq,fun c=>(c.ends fun q hq=>⟨(he q hq).1.symm,(he q hq).2.symm⟩).mono fun q hq=>(hP q).2 hq⟩
section
open Classical
variable {l:Lay} {g g':G}
theorem zc6 {i u:Int} (h:∀ w,Jn g' i u w↔Jn g i u w):nv l g' i u=nv l g i u:=by
 unfold nv; exact zqM fun w _=>zzy (h w)
theorem zx1 {i u:Int}:nv l g i u<=l.V:=by
 unfold nv; have:=List.countP_le_length (p:=fun w:Nat=>decide (Jn g i u w)) (l:=List.range l.V); simpa using this
theorem zdH {α:Type} {p q:α->Bool}:∀ {r:List α},(∀ x∈r,p x=true->q x=true)->r.countP p<=r.countP q
 | [],_=>Nat.le_refl _
 | x :: r,h=>by
  have ih:=zdH (p:=p) (q:=q) (r:=r) fun y hy=>h y (by simp [hy])
  have h1:=h x (by simp)
  simp only [List.countP_cons]
  cases hp:p x<;>cases hq:q x<;>simp_all<;>omega
theorem zsh {i u i' u':Int} (h:∀ w,Jn g i u w->Jn g' i' u' w):nv l g i u<=nv l g' i' u':=by
 unfold nv; exact zdH fun w _ hw=>decide_eq_true (h w (of_decide_eq_true hw))
theorem zwF {i u v:Int} (hu:0<=u/\u<l.V) (hv:0<=v/\v<l.V) (hne:u≠v) (h:Jn g i u v):2<=nv l g i u:=by
 have:=zh6 (p:=fun w:Nat=>decide ((w:Int)=u)) (q:=fun w:Nat=>decide ((w:Int)=v)) (r:=fun w:Nat=>decide ((w:Int)=u) || decide ((w:Int)=v)) (l:=List.range l.V) (fun _ _=>Z) (fun x _ hx=>decide_eq_false fun e=>hne (by have:=of_decide_eq_true hx; omega))
 have one:∀ u:Int,0<=u/\u<l.V->(List.range l.V).countP (fun w:Nat=>decide ((w:Int)=u))=1:=fun u hu=>by
  have:=ze3 (p:=fun _:Nat=>false) (q:=fun w:Nat=>decide ((w:Int)=u)) (r:=List.range l.V) (s:=u.toNat) (fun x hx hne=>decide_eq_false fun c=>hne (by omega)) (List.mem_range.2 (by omega)) Z (decide_eq_true (by omega)) List.nodup_range
  rw [this,zgQ fun _ _=>Z]
 rw [one u hu,one v hv] at this
 rw [show 2=1+1 from Z,<-this]
 unfold nv
 exact zdH fun w _ hw=>by
  rcases (Bool.or_eq_true_iff).1 hw with hw | hw
  ·rw [of_decide_eq_true hw]; exact decide_eq_true (Conn.refl _)
  ·rw [of_decide_eq_true hw]; exact decide_eq_true h
theorem zz9 {i u v:Int} (hno:¬Jn g i u v) {x:Int} (h:∀ w,Jn g i u w\/Jn g i v w->Jn g' i x w):nv l g i u+nv l g i v<=nv l g' i x:=by
 have:=zh6 (p:=fun w:Nat=>decide (Jn g i u w)) (q:=fun w:Nat=>decide (Jn g i v w)) (r:=fun w:Nat=>decide (Jn g i u w) || decide (Jn g i v w)) (l:=List.range l.V) (fun _ _=>Z) (fun x _ hx=>decide_eq_false fun c=>hno ((of_decide_eq_true hx).trans c.symm))
 unfold nv
 rw [<-this]
 exact zdH fun w _ hw=>by
  rcases (Bool.or_eq_true_iff).1 hw with hw | hw
  ·exact decide_eq_true (h w (.inl (of_decide_eq_true hw)))
  ·exact decide_eq_true (h w (.inr (of_decide_eq_true hw)))
theorem nv_or {i u v x:Int} (h:∀ w,Jn g' i x w->Jn g i u w\/Jn g i v w):nv l g' i x<=nv l g i u+nv l g i v:=by
 have key:∀ (r:List Nat),r.countP (fun w:Nat=>decide (Jn g' i x w))<=r.countP (fun w:Nat=>decide (Jn g i u w))+r.countP fun w:Nat=>decide (Jn g i v w):=fun r=>by
  induction r with
  | nil=>exact Nat.le_refl _
  | cons a r ih =>
   simp only [List.countP_cons]
   have:=h a
   by_cases h1:Jn g' i x a<;>by_cases h2:Jn g i u a<;>by_cases h3:Jn g i v a<;>simp_all<;>omega
 exact key _
end
structure Hdt (l:Lay) (g:G):Prop where
 sz:∀ i:Nat,(i:Int)<l.lev->∀ u:Int,0<=u/\u<l.V->nv l g i u<=l.V / 2 ^ i
 nt:∀ q,g.has q=true->g.tr q=false->Jn g (g.lv q) (g.u q) (g.v q)
structure DelI (l:Lay) (g:G) (u v i:Int):Prop where
 sz:∀ j:Nat,(j:Int)<l.lev->∀ x:Int,0<=x/\x<l.V->nv l g j x<=l.V / 2 ^ j
 pr:∀ j:Nat,(j:Int)<=i->(j:Int)<l.lev->nv l g j u+nv l g j v<=l.V / 2 ^ j
 hi:∀ q,g.has q=true->g.tr q=false->i<g.lv q->Jn g (g.lv q) (g.u q) (g.v q)
 lo:∀ q,g.has q=true->g.tr q=false->g.lv q<=i->Jn g (g.lv q) (g.u q) (g.v q)\/(Jn g (g.lv q) (g.u q) u/\Jn g (g.lv q) (g.v q) v)\/(Jn g (g.lv q) (g.u q) v/\Jn g (g.lv q) (g.v q) u)
 no:¬Jn g 0 u v
section
variable {l:Lay} (hl:l.Ok) {p:Pen} (hp:PenOk p) {pr:Int->Int} {σ:M} {g g':G}
theorem Hdt.g0 (hl:l.Ok):Hdt l G0:=⟨fun i hi u hu=>by
 classical
 have:nv l G0 i u<=1:=by
  have h1:=ze3 (p:=fun _:Nat=>false) (q:=fun w:Nat=>decide ((w:Int)=u)) (r:=List.range l.V) (s:=u.toNat) (fun x hx hne=>decide_eq_false fun c=>hne (by omega)) (List.mem_range.2 (by omega)) Z (decide_eq_true (by omega)) List.nodup_range
  rw [zgQ fun _ _=>Z] at h1
  unfold nv
  refine Nat.le_trans (zdH fun w _ hw=>?_) (Nat.le_of_eq h1)
  refine decide_eq_true ?_
  have hj:Jn G0 i u w:=of_decide_eq_true hw
  have:∀ {x y:Int},Jn G0 i x y->x=y:=fun {x y} c=>by
   induction c with
   | refl=>rfl
   | step _ s hs=>cases hs.1
  exact (this hj).symm
 exact Nat.le_trans this ((znY hl).1 hi),fun q hq=>by cases hq⟩
theorem Hdt.put_add (h:Hdt l g) {s a b:Int} (hno:g.has s=false) (hj:Jn g 0 a b):Hdt l (g.put s a b 0 false):=by
 have hs:∀ q,g.has q=true->q≠s:=fun q hq e=>by subst e; rw [hno] at hq; cases hq
 have hP:∀ i q,Pg (g.put s a b 0 false) i q↔Pg g i q:=fun i q=>by
  unfold Pg G.put updB updI; dsimp only
  by_cases e:q=s
  ·subst e; simp [hno]
  ·simp [e]
 have he:∀ i q,Pg g i q->(g.put s a b 0 false).u q=g.u q/\(g.put s a b 0 false).v q=g.v q:=fun i q hq=>by
  have:=hs q hq.1; unfold G.put updI; simp [this]
 have jn:∀ {i x y},Jn (g.put s a b 0 false) i x y↔Jn g i x y:=fun {i x y}=>Jn.congr (hP i) (he i)
 refine ⟨fun i hi u hu=>by rw [zc6 fun w=>jn]; exact h.sz i hi u hu,fun q hq ht=>?_⟩
 rw [jn]
 by_cases e:q=s
 ·subst e; unfold G.put updI; simpa using hj
 ·have:g.has q=true:=by unfold G.put updB at hq; simpa [e] using hq
  have h2:=h.nt q this (by unfold G.put updB at ht; simpa [e] using ht)
  unfold G.put updI; simpa [e] using h2
theorem Hdt.put_plant (h:Hdt l g) {s a b:Int} (hno:g.has s=false):Hdt l (g.put s a b 0 true):=by
 have hs:∀ q,g.has q=true->q≠s:=fun q hq e=>by subst e; rw [hno] at hq; cases hq
 have he:∀ i q,Pg g i q->(g.put s a b 0 true).u q=g.u q/\(g.put s a b 0 true).v q=g.v q:=fun i q hq=>by
  have:=hs q hq.1; unfold G.put updI; simp [this]
 have up:∀ {i x y},Jn g i x y->Jn (g.put s a b 0 true) i x y:=fun {i x y} c=>(c.ends fun q hq=>⟨(he i q hq).1.symm,(he i q hq).2.symm⟩).mono fun q hq=>by
  have:=hs q hq.1
  unfold Pg at hq; unfold Pg G.put updB updI; simpa [this] using hq
 refine ⟨fun i hi u hu=>?_,fun q hq ht=>?_⟩
 ·by_cases hi0:i=0
  ·subst hi0; simpa using zx1 (l:=l) (g:=g.put s a b 0 true) (i:=((0:Nat):Int)) (u:=u)
  ·have hP:∀ q,Pg (g.put s a b 0 true) i q↔Pg g i q:=fun q=>by
    unfold Pg G.put updB updI; dsimp only
    by_cases e:q=s
    ·subst e; simp [hno]; omega
    ·simp [e]
   rw [zc6 fun w=>Jn.congr hP (he i)]; exact h.sz i hi u hu
 ·have e:q≠s:=fun e=>by subst e; unfold G.put updB at ht; simp at ht
  have:g.has q=true:=by unfold G.put updB at hq; simpa [e] using hq
  have h2:=up (h.nt q this (by unfold G.put updB at ht; simpa [e] using ht))
  unfold G.put updI at *; simpa [e] using h2
theorem Hdt.top (hl:l.Ok) (hE:∀ s,g.has s=true->(0<=g.u s/\g.u s<g.v s/\g.v s<l.V)/\0<=g.lv s) (h:Hdt l g) {q:Int} (hq:g.has q=true):g.lv q+1<l.lev/\2<=l.V / 2 ^ (g.lv q).toNat:=by
 obtain ⟨h1,h2⟩:=hE q hq
 have hj:Jn g (g.lv q) (g.u q) (g.v q):=by
  cases ht:g.tr q with
  | true=>exact .step (.refl _) q ⟨hq,ht,Int.le_refl _⟩ (.inl ⟨Z,Z⟩)
  | false=>exact h.nt q hq ht
 have e:(((g.lv q).toNat:Nat):Int)=g.lv q:=by omega
 have h3:=zwF (l:=l) (g:=g) (i:=g.lv q) ⟨h1.1,by omega⟩ ⟨by omega,h1.2.2⟩ (by omega) hj
 have hlt:g.lv q<l.lev:=by
  rcases Int.lt_or_le (g.lv q) l.lev with hc | hc
  ·exact hc
  ·exfalso
   have h5:∀ {x y},Jn g (g.lv q) x y->Jn g (l.lev - 1) x y:=fun c=>c.down (by omega)
   have lb:=zbz hl
   have:=h.sz (l.lev - 1).toNat (by omega) (g.u q) ⟨h1.1,by omega⟩
   have h6:=zwF (l:=l) (g:=g) (i:=(((l.lev - 1).toNat:Nat):Int)) ⟨h1.1,by omega⟩ ⟨by omega,h1.2.2⟩ (by omega) (by rw [show (((l.lev - 1).toNat:Nat):Int)=l.lev - 1 by omega]; exact h5 hj)
   have h7:=(znY hl (i:=(l.lev - 1).toNat)).2 (by omega)
   omega
 have h4:=h.sz (g.lv q).toNat (by omega) (g.u q) ⟨h1.1,by omega⟩
 rw [e] at h4
 refine ⟨?_,by omega⟩
 rcases Int.lt_or_le (g.lv q+1) l.lev with h | h
 ·exact h
 ·have:=(znY hl (i:=(g.lv q).toNat)).2 (by omega); omega
theorem Hdt.del (h:Hdt l g) {s:Int} (hs:g.tr s=false):Hdt l (g.del s):=by
 have hP:∀ i q,Pg (g.del s) i q↔Pg g i q:=fun i q=>by
  unfold Pg G.del updB; dsimp only
  by_cases e:q=s
  ·subst e; simp [hs]
  ·simp [e]
 have jn:∀ {i x y},Jn (g.del s) i x y↔Jn g i x y:=fun {i x y}=>Jn.congr (hP i) fun q _=>⟨Z,Z⟩
 refine ⟨fun i hi u hu=>by rw [zc6 fun w=>jn]; exact h.sz i hi u hu,fun q hq ht=>?_⟩
 rw [jn]
 have e:q≠s:=fun e=>by subst e; unfold G.del updB at hq; simp at hq
 exact h.nt q (by unfold G.del updB at hq; simpa [e] using hq) ht
theorem DelI.start (h:Hdt l g) {s:Int} (hh:g.has s=true) (ht:g.tr s=true) (hE:(0<=g.u s/\g.u s<l.V)/\0<=g.v s/\g.v s<l.V) (h0:0<=g.lv s) (hb:¬Conn (fun q=>Pg g 0 q/\q≠s) g.u g.v (g.u s) (g.v s)):DelI l (g.del s) (g.u s) (g.v s) (g.lv s):=by
 have hPe:∀ i q,Pg (g.del s) i q↔(Pg g i q/\q≠s):=fun i q=>by
  unfold Pg G.del updB; dsimp only
  by_cases e:q=s
  ·subst e; simp
  ·simp [e]
 have dn:∀ {i x y},Jn (g.del s) i x y->Jn g i x y:=fun {i x y} c=>Conn.mono c fun q hq=>((hPe i q).1 hq).1
 have hi:∀ {i x y},g.lv s<i->(Jn (g.del s) i x y↔Jn g i x y):=fun {i x y} hlt=>Jn.congr (g:=g) (g':=g.del s) (fun q=>(hPe i q).trans ⟨fun a=>a.1,fun a=>⟨a,fun e=>by subst e; have:=a.2.2; omega⟩⟩) fun q _=>⟨Z,Z⟩
 have lo:∀ {i x y},i<=g.lv s->(Jn g i x y↔Jn (g.del s) i x y\/(Jn (g.del s) i x (g.u s)/\Jn (g.del s) i (g.v s) y)\/(Jn (g.del s) i x (g.v s)/\Jn (g.del s) i (g.u s) y)):=fun {i x y} hle=>by
  refine Iff.trans ?_ (zjZ (s:=s) (P:=Pg (g.del s) i) (eu:=g.u) (ev:=g.v))
  unfold Jn
  exact ⟨fun c=>c.mono fun q hq=>if e:q=s then .inl e else .inr ((hPe i q).2 ⟨hq,e⟩),fun c=>c.mono fun q hq=>hq.elim (fun e=>by subst e; exact ⟨hh,ht,hle⟩) fun a=>((hPe i q).1 a).1⟩
 have no:¬Jn (g.del s) 0 (g.u s) (g.v s):=fun c=>hb (Conn.mono c fun q hq=>(hPe 0 q).1 hq)
 have hq':∀ q,(g.del s).has q=true->q≠s/\g.has q=true:=fun q hq=>by
  have e:q≠s:=fun e=>by subst e; unfold G.del updB at hq; simp at hq
  exact ⟨e,by unfold G.del updB at hq; simpa [e] using hq⟩
 refine ⟨fun j hj x hx=>Nat.le_trans (zsh fun w c=>dn c) (h.sz j hj x hx),fun j hj hj2=>?_,fun q hq hqt hlt=>?_,fun q hq hqt hle=>?_,no⟩
 ·refine Nat.le_trans (zz9 (g':=g) (x:=g.u s) (fun c=>no (c.down (by omega))) fun w c=>?_) (h.sz j hj2 (g.u s) hE.1)
  rcases c with c | c
  ·exact dn c
  ·exact (lo hj).2 (.inr (.inl ⟨.refl _,c⟩))
 ·exact (hi hlt).2 (h.nt q (hq' q hq).2 hqt)
 ·rcases (lo hle).1 (h.nt q (hq' q hq).2 hqt) with c | ⟨c1,c2⟩ | ⟨c1,c2⟩
  ·exact .inl c
  ·exact .inr (.inl ⟨c1,c2.symm⟩)
  ·exact .inr (.inr ⟨c1,c2.symm⟩)
structure Ext (g g':G):Prop where
 has:g'.has=g.has
 u:g'.u=g.u
 v:g'.v=g.v
 lv:∀ q,g.lv q<=g'.lv q
theorem Ext.refl:Ext g g:=⟨Z,Z,Z,fun _=>Int.le_refl _⟩
theorem Ext.trans {g'':G} (h:Ext g g') (h':Ext g' g''):Ext g g'':=⟨h'.has.trans h.has,h'.u.trans h.u,h'.v.trans h.v,fun q=>Int.le_trans (h.lv q) (h'.lv q)⟩
theorem Raised.ext {i:Int} {C:Int->Prop} (h:Raised g g' i C):Ext g g':=⟨h.has,h.u,h.v,fun q=>by
 by_cases c:C q
 ·have:=h.up q c; omega
 ·rw [h.st q c]; exact Int.le_refl _⟩
theorem Raised.up_jn {i:Int} {C:Int->Prop} (h:Raised g g' i C) {j x y:Int} (c:Jn g j x y):Jn g' j x y:=by
 unfold Jn; rw [h.u,h.v]
 exact Conn.mono c fun q hq=>⟨by rw [h.has]; exact hq.1,by rw [h.tr]; exact hq.2.1,Int.le_trans hq.2.2 (h.ext.lv q)⟩
include hl hp
theorem zau.replant (h:zau l pr σ g) {q:Int} (hh:g.has q=true) (ht:g.tr q=false) (hc:∀ a,0<=a->a<=g.lv q->¬Jn g a (g.u q) (g.v q)) {k:Nat} (hk:560<k):∃ σ1 σ2,Go.Tm.remove l k σ q=some σ1/\Go.Tm.plant l p k σ1 q=some σ2/\zau l pr σ2 (g.turn q true):=by
 obtain ⟨F,mk,L,h⟩:=h
 obtain ⟨σ1,mk1,L1,e1,h1⟩:=h.remove hl ⟨hh,ht⟩ hk
 obtain ⟨σ2,F2,mk2,e2,h2⟩:=h1.plant hl hp hh (fun a ha ha'=>⟨fun hP=>(by have:=hP.2.1; rw [ht] at this; cases this),hc a ha ha'⟩) hk
 refine ⟨σ1,σ2,e1,e2,F2,mk2,L1,h2.iff hl (fun i s hi=>?_) (fun i s hs=>hs.1) (fun s=>?_) (fun s i hs=>?_)⟩
 ·unfold Pg G.turn updB; dsimp only
  by_cases e:s=q
  ·subst e; rw [Zp Z]
   exact ⟨fun a=>a.elim (fun a=>by have:=a.2.1; rw [ht] at this; cases this) fun a=>⟨hh,rfl,a.2.2⟩,fun a=>.inr ⟨rfl,hi.1,a.2.2⟩⟩
  ·rw [Zn e]; exact ⟨fun a=>a.elim id fun a=>absurd a.1 e,.inl⟩
 ·unfold Bg G.turn updB; dsimp only
  by_cases e:s=q
  ·subst e; simp
  ·simp [e]
 ·unfold Kg G.turn updB; dsimp only
  by_cases e:s=q
  ·subst e
   rw [Zp Z]
   by_cases e2:i=g.lv s
   ·subst e2; simp [hh]
   ·rw [Zn (fun c=>e2 c.2)]
    exact ⟨fun a=>(by have:=a.2.1; rw [ht] at this; cases this),fun a=>absurd a.2.2.symm e2⟩
  ·rw [Zn (fun c=>e c.1),Zn e]
theorem zfL (hR:zau l pr σ g) {u v i:Int} (hD:DelI l g u v i) (hi:0<=i) (hi2:i+1<l.lev) (hu:0<=u/\u<l.V) (hv:0<=v/\v<l.V) {k:Nat} (hk:560<k) :
  ∃ r σ' g',replace l p k σ i u v=some (r,σ')/\zau l pr σ' g'/\Ext g g'/\((r=(0,false)/\g'.tr=g.tr/\DelI l g' u v (i - 1))\/(r.2=true/\Hdt l g'/\Jn g' 0 u v/\g.has r.1=true/\g.tr r.1=false/\g'.tr=updB g.tr r.1 true)):=by
 have lb:=zbz hl
 have ei:((i.toNat:Nat):Int)=i:=by omega
 have ou:l.okV i u:=⟨⟨hi,by omega⟩,hu⟩
 have ov:l.okV i v:=⟨⟨hi,by omega⟩,hv⟩
 obtain ⟨w,hw,hwuv,hwn⟩:∃ w,(if nv l g i v<nv l g i u then v else u)=w/\(w=u\/w=v)/\2 * nv l g i w<=nv l g i u+nv l g i v:=by
  split
  ·exact ⟨v,Z,.inr Z,by omega⟩
  ·exact ⟨u,Z,.inl Z,by omega⟩
 have ow:l.okV i w:=by rcases hwuv with rfl | rfl<;>assumption
 have e1:=hR.smaller hl ou ov hk
 rw [hw] at e1
 obtain ⟨σ1,g1,e2,hR1,hA1⟩:=hR.trees hl hp ow hi2 hk
 obtain ⟨r,σ2,g2,C,e3,hR2,hA2,hC,hFo⟩:=hR1.seek hl ow hi2 hk
 have jn1:∀ {j x y},j<=i->(Jn g1 j x y↔Jn g j x y):=fun hj=>hA1.jn hl hj
 have jn2:∀ {j x y},j<=i->(Jn g2 j x y↔Jn g j x y):=fun hj=>(hA2.jn hl hj).trans (jn1 hj)
 have E2:Ext g g2:=hA1.ext.trans hA2.ext
 have tr2:g2.tr=g.tr:=hA2.tr.trans hA1.tr
 have up1:∀ {x},Jn g i w x->Jn g1 (i+1) w x:=fun {x} c=>by
  unfold Jn at c
  induction c with
  | refl=>exact .refl _
  | @step y z hy s hs he ih =>
   have he':=he
   refine .step ih s ⟨by rw [hA1.has]; exact hs.1,by rw [hA1.tr]; exact hs.2.1,?_⟩ (by rw [hA1.u,hA1.v]; exact he)
   by_cases e:g.lv s=i
   ·have hy':Jn g i w (g.u s):=by
     rcases he with ⟨h1,_⟩ | ⟨_,h2⟩
     ·rw [h1]; exact hy
     ·rw [h2]; exact .step hy s hs he'
    rw [(hA1.up s ⟨hs.1,hs.2.1,e,hy'⟩).2.2]; exact Int.le_refl _
   ·rw [hA1.st s fun c=>e c.2.2.1]; have:=hs.2.2; omega
 have dn1:∀ {x y},Jn g1 (i+1) x y->Jn g (i+1) x y\/(Jn g i w x/\Jn g i w y):=fun {x y} c=>by
  unfold Jn at c
  induction c with
  | refl=>exact .inl (.refl _)
  | @step y z hy s hs he ih =>
   rw [hA1.u,hA1.v] at he
   have hs1:g.has s=true:=by rw [<-hA1.has]; exact hs.1
   have hs2:g.tr s=true:=by rw [<-hA1.tr]; exact hs.2.1
   by_cases cC:g.has s=true/\g.tr s=true/\g.lv s=i/\Jn g i w (g.u s)
   ·have hv':Jn g i w (g.v s):=.step cC.2.2.2 s ⟨hs1,hs2,by rw [cC.2.2.1]; exact Int.le_refl _⟩ (.inl ⟨Z,Z⟩)
    have hyz:Jn g i w y/\Jn g i w z:=by
     rcases he with ⟨h1,h2⟩ | ⟨h1,h2⟩
     ·rw [<-h1,<-h2]; exact ⟨cC.2.2.2,hv'⟩
     ·rw [<-h1,<-h2]; exact ⟨hv',cC.2.2.2⟩
    rcases ih with ih | ⟨ih1,_⟩
    ·exact .inr ⟨hyz.1.trans (Conn.symm (Jn.down ih (by omega))),hyz.2⟩
    ·exact .inr ⟨ih1,hyz.2⟩
   ·have hlv:=hs.2.2
    rw [hA1.st s cC] at hlv
    have st:Jn g (i+1) y z:=.step (.refl _) s ⟨hs1,hs2,hlv⟩ he
    rcases ih with ih | ⟨ih1,ih2⟩
    ·exact .inl (ih.trans st)
    ·exact .inr ⟨ih1,ih2.trans (st.down (by omega))⟩
 have hiA:∀ {j x y},i+1<j->(Jn g1 j x y↔Jn g j x y):=fun {j x y} hj=>by
  refine Jn.congr (g:=g) (g':=g1) (fun q=>?_) fun q _=>by rw [hA1.u,hA1.v]; exact ⟨Z,Z⟩
  unfold Pg; rw [hA1.has,hA1.tr]
  by_cases c:g.has q=true/\g.tr q=true/\g.lv q=i/\Jn g i w (g.u q)
  ·have:=hA1.up q c
   exact ⟨fun a=>by have:=a.2.2; omega,fun a=>by have:=a.2.2; omega⟩
  ·rw [hA1.st q c]
 have jn12:∀ {j x y},Jn g2 j x y↔Jn g1 j x y:=fun {j x y}=>by
  refine Jn.congr (g:=g1) (g':=g2) (fun q=>?_) fun q _=>by rw [hA2.u,hA2.v]; exact ⟨Z,Z⟩
  unfold Pg; rw [hA2.has,hA2.tr]
  by_cases c:C q
  ·have:=(hC q c).1
   exact ⟨fun a=>(by rw [this] at a; cases a.2.1),fun a=>(by rw [this] at a; cases a.2.1)⟩
  ·rw [hA2.st q c]
 have sz2:∀ j:Nat,(j:Int)<l.lev->∀ x:Int,0<=x/\x<l.V->nv l g2 j x<=l.V / 2 ^ j:=fun j hj x hx=>by
  rw [zc6 fun w=>jn12]
  rcases Int.lt_or_le i j with h | h
  ·by_cases e:(j:Int)=i+1
   ·by_cases c:Jn g i w x
    ·have h1:nv l g1 j x<=nv l g i w:=zsh fun y hy=>by
      rw [e] at hy
      rcases dn1 hy with h | ⟨_,h⟩
      ·exact c.trans (h.down (by omega))
      ·exact h
     have h2:=hD.pr i.toNat (by omega) (by omega)
     rw [ei] at h2
     have h3:l.V / 2 ^ j=l.V / 2 ^ i.toNat / 2:=by rw [show j=i.toNat+1 by omega,Nat.pow_succ,Nat.div_div_eq_div_mul]
     rw [h3]; omega
    ·rw [zc6 fun y=>?_]
     ·exact hD.sz j hj x hx
     ·rw [e]; exact ⟨fun hy=>(dn1 hy).elim id fun a=>absurd a.1 c,fun hy=>hA1.up_jn hy⟩
   ·rw [zc6 fun y=>hiA (by omega)]; exact hD.sz j hj x hx
  ·rw [zc6 fun y=>jn1 h]; exact hD.sz j hj x hx
 have pr2:∀ j:Nat,(j:Int)<=i->(j:Int)<l.lev->nv l g2 j u+nv l g2 j v<=l.V / 2 ^ j:=fun j h1 h2=>by
  rw [zc6 fun y=>jn2 h1,zc6 fun y=>jn2 h1]; exact hD.pr j h1 h2
 have no2:¬Jn g2 0 u v:=fun c=>hD.no ((jn2 hi).1 c)
 have hi2':∀ q,g2.has q=true->g2.tr q=false->i<g2.lv q->Jn g2 (g2.lv q) (g2.u q) (g2.v q):=fun q hq ht hlt=>by
  rw [E2.has] at hq; rw [tr2] at ht; rw [E2.u,E2.v]
  have n1:¬(g.has q=true/\g.tr q=true/\g.lv q=i/\Jn g i w (g.u q)):=fun c=>by rw [ht] at c; cases c.2.1
  by_cases c:C q
  ·have h1:=(hA2.up q c).2.2
   obtain ⟨_,c2,c3⟩:=hC q c
   rw [hA1.u,jn1 (Int.le_refl _)] at c2; rw [hA1.v,jn1 (Int.le_refl _)] at c3
   rw [h1,jn12]
   exact (Conn.symm (up1 c2)).trans (up1 c3)
  ·have h1:g2.lv q=g.lv q:=(hA2.st q c).trans (hA1.st q n1)
   rw [h1] at hlt ⊢
   rw [jn12]; exact hA1.up_jn (hD.hi q hq ht hlt)
 have lo2:∀ q,g2.has q=true->g2.tr q=false->g2.lv q<=i->Jn g2 (g2.lv q) (g2.u q) (g2.v q)\/(Jn g2 (g2.lv q) (g2.u q) u/\Jn g2 (g2.lv q) (g2.v q) v)\/(Jn g2 (g2.lv q) (g2.u q) v/\Jn g2 (g2.lv q) (g2.v q) u):=fun q hq ht hle=>by
  rw [E2.has] at hq; rw [tr2] at ht; rw [E2.u,E2.v]
  have n1:¬(g.has q=true/\g.tr q=true/\g.lv q=i/\Jn g i w (g.u q)):=fun c=>by rw [ht] at c; cases c.2.1
  have n2:¬C q:=fun c=>by have:=(hA2.up q c).2.2; omega
  have h1:g2.lv q=g.lv q:=(hA2.st q n2).trans (hA1.st q n1)
  rw [h1] at hle ⊢
  simp only [jn2 hle]
  exact hD.lo q hq ht hle
 have wr:IntKind.i64.wrap (i+1)=i+1:=zaU (by omega)
 unfold replace
 rw [wr,Zn (by omega),e1]
 dsimp only [Option.bind_some]
 rw [e2]
 dsimp only [Option.bind_some]
 rw [e3]
 dsimp only [Option.bind_some]
 rcases hFo with ⟨hr,hno⟩ | ⟨hr,hq,ht,hlv,hnj,hone⟩
 ·rw [hr]
  refine ⟨_,σ2,g2,Z,hR2,E2,.inl ⟨Z,tr2,sz2,fun j h1 h2=>pr2 j (by omega) h2,fun q hq ht hlt=>?_,fun q hq ht hle=>lo2 q hq ht (by omega),no2⟩⟩
  rcases Int.lt_or_le i (g2.lv q) with h | h
  ·exact hi2' q hq ht h
  ·have e:g2.lv q=i:=by omega
   obtain ⟨n1,n2⟩:=hno q hq ht e
   rcases lo2 q hq ht h with c | ⟨c1,c2⟩ | ⟨c1,c2⟩
   ·exact c
   ·rw [e] at c1 c2
    rcases hwuv with rfl | rfl
    ·exact absurd (Conn.symm c1) n1
    ·exact absurd (Conn.symm c2) n2
   ·rw [e] at c1 c2
    rcases hwuv with rfl | rfl
    ·exact absurd (Conn.symm c2) n2
    ·exact absurd (Conn.symm c1) n1
 ·rw [hr,Zp Z]
  have hcr:(Jn g2 i (g2.u r.1) u/\Jn g2 i (g2.v r.1) v)\/(Jn g2 i (g2.u r.1) v/\Jn g2 i (g2.v r.1) u):=by
   rcases lo2 r.1 hq ht (by omega) with c | c | c
   ·rw [hlv] at c; exact absurd c hnj
   ·rw [hlv] at c; exact .inl c
   ·rw [hlv] at c; exact .inr c
  obtain ⟨σ3,σ4,e4,e5,hR4⟩:=hR2.replant hl hp hq ht (fun a ha ha' c=>no2 (by
   rw [hlv] at ha'
   rcases hcr with ⟨c1,c2⟩ | ⟨c1,c2⟩
   ·exact Jn.down (g:=g2) (i:=a) ((Conn.symm (c1.down ha')).trans (c.trans (c2.down ha'))) ha
   ·exact Jn.down (g:=g2) (i:=a) ((Conn.symm (c2.down ha')).trans ((Conn.symm c).trans (c1.down ha'))) ha)) hk
  rw [e4]
  dsimp only [Option.bind_some]
  rw [e5]
  dsimp only [Option.bind_some]
  have hP:∀ j q,Pg (g2.turn r.1 true) j q↔(q=r.1/\j<=i)\/Pg g2 j q:=fun j q=>by
   unfold Pg G.turn updB; dsimp only
   by_cases e:q=r.1
   ·rw [e,Zp Z,ht,hlv,hq]; simp
   ·rw [Zn e]; exact ⟨.inr,fun a=>a.elim (fun a=>absurd a.1 e) id⟩
  have up3:∀ {j x y},Jn g2 j x y->Jn (g2.turn r.1 true) j x y:=fun {j x y} c=>Conn.mono c fun q hq=>(hP j q).2 (.inr hq)
  have hi3:∀ {j x y},i<j->(Jn (g2.turn r.1 true) j x y↔Jn g2 j x y):=fun {j x y} hj=>Jn.congr (g:=g2) (g':=g2.turn r.1 true) (fun q=>(hP j q).trans ⟨fun a=>a.elim (fun a=>by have:=a.2; omega) id,.inr⟩) fun q _=>⟨Z,Z⟩
  have lo3:∀ {j x y},j<=i->(Jn (g2.turn r.1 true) j x y↔Jn g2 j x y\/(Jn g2 j x (g2.u r.1)/\Jn g2 j (g2.v r.1) y)\/(Jn g2 j x (g2.v r.1)/\Jn g2 j (g2.u r.1) y)):=fun {j x y} hj=>by
   refine Iff.trans ?_ (zjZ (s:=r.1) (P:=Pg g2 j) (eu:=g2.u) (ev:=g2.v))
   unfold Jn
   exact ⟨fun c=>c.mono fun q hq=>((hP j q).1 hq).imp (fun a=>a.1) id,fun c=>c.mono fun q hq=>(hP j q).2 (hq.imp (fun a=>⟨a,hj⟩) id)⟩
  have uv3:∀ {j},j<=i->Jn (g2.turn r.1 true) j u v:=fun {j} hj=>by
   refine (lo3 hj).2 ?_
   rcases hcr with ⟨c1,c2⟩ | ⟨c1,c2⟩
   ·exact .inr (.inl ⟨Conn.symm (c1.down hj),c2.down hj⟩)
   ·exact .inr (.inr ⟨Conn.symm (c2.down hj),c1.down hj⟩)
  refine ⟨_,σ4,g2.turn r.1 true,Z,hR4,⟨E2.has,E2.u,E2.v,E2.lv⟩,.inr ⟨Z,⟨fun j hj x hx=>?_,fun q hq' ht'=>?_⟩,uv3 hi,by rw [<-E2.has]; exact hq,by rw [<-tr2]; exact ht,by rw [<-tr2]; rfl⟩⟩
  ·rcases Int.lt_or_le i j with h | h
   ·rw [zc6 fun y=>hi3 h]; exact sz2 j hj x hx
   ·by_cases c:Jn g2 j x (g2.u r.1)\/Jn g2 j x (g2.v r.1)
    ·refine Nat.le_trans (nv_or (u:=u) (v:=v) fun y hy=>?_) (pr2 j h hj)
     have cu:Jn g2 j (g2.u r.1) y\/Jn g2 j (g2.v r.1) y:=by
      rcases (lo3 h).1 hy with h1 | h1 | h1
      ·exact c.imp (fun c=>(Conn.symm c).trans h1) fun c=>(Conn.symm c).trans h1
      ·exact .inr h1.2
      ·exact .inl h1.2
     rcases hcr with ⟨c1,c2⟩ | ⟨c1,c2⟩
     ·exact cu.imp (fun a=>(Conn.symm (c1.down h)).trans a) fun a=>(Conn.symm (c2.down h)).trans a
     ·exact cu.elim (fun a=>.inr ((Conn.symm (c1.down h)).trans a)) fun a=>.inl ((Conn.symm (c2.down h)).trans a)
    ·rw [zc6 fun y=>(lo3 h).trans ⟨fun a=>a.elim id fun a=>a.elim (fun a=>absurd (.inl a.1) c) fun a=>absurd (.inr a.1) c,.inl⟩]; exact sz2 j hj x hx
  ·have e:q≠r.1:=fun e=>by subst e; unfold G.turn updB at ht'; simp at ht'
   have ht2:g2.tr q=false:=by unfold G.turn updB at ht'; simpa [e] using ht'
   show Jn (g2.turn r.1 true) (g2.lv q) (g2.u q) (g2.v q)
   rcases Int.lt_or_le i (g2.lv q) with h | h
   ·exact up3 (hi2' q hq' ht2 h)
   ·rcases lo2 q hq' ht2 h with c | ⟨c1,c2⟩ | ⟨c1,c2⟩
    ·exact up3 c
    ·exact (up3 c1).trans ((uv3 h).trans (Conn.symm (up3 c2)))
    ·exact (up3 c1).trans ((Conn.symm (uv3 h)).trans (Conn.symm (up3 c2)))
end
end Go.Tm
namespace Go.Tm
open MemLike Eng
section
variable {l:Lay} (hl:l.Ok) {p:Pen} (hp:PenOk p) {pr:Int->Int} {σ:M} {g g':G}
theorem DelI.end {u v:Int} (h:DelI l g u v (-1)) (hE:∀ s,g.has s=true->0<=g.lv s):Hdt l g:=⟨h.sz,fun q hq ht=>h.hi q hq ht (by have:=hE q hq; omega)⟩
structure Sought (l:Lay) (g g':G) (u v:Int) (r:Int×Bool):Prop where
 ext:Ext g g'
 hdt:Hdt l g'
 no:r.2=false->r.1=0/\g'.tr=g.tr/\¬Jn g' 0 u v
 yes:r.2=true->Jn g' 0 u v/\g.has r.1=true/\g.tr r.1=false/\g'.tr=updB g.tr r.1 true
include hl hp
theorem zg1 {u v:Int} (hu:0<=u/\u<l.V) (hv:0<=v/\v<l.V) {m:Nat} (hm:560<m):∀ (n k:Nat) {σ:M} {g:G} {i:Int} {b:Int×Bool},i=(n:Int) - 1->n<k->i+1<l.lev->zau l pr σ g->DelI l g u v i->b=(0,false) ->
  ∃ r σ' g',zbb l p u v k m σ i b=some (r,σ')/\zau l pr σ' g'/\Sought l g g' u v r
 | 0,k+1,σ,g,i,b,hi,_,_,hR,hD,hb=>by
  rw [zbb,Zn (by omega),hb]
  have:i=-1:=by omega
  subst this
  exact ⟨_,σ,g,rfl,hR,Ext.refl,hD.end fun s hs=>(hR.edges.rng s hs).2.2.1,fun _=>⟨rfl,rfl,hD.no⟩,fun h=>(by cases h)⟩
 | n+1,k+1,σ,g,i,b,hi,hk,hi2,hR,hD,hb=>by
  obtain ⟨r,σ1,g1,e,hR1,hE,hc⟩:=zfL hl hp hR hD (by omega) hi2 hu hv hm
  rw [zbb,Zp (by omega),e]
  dsimp only [Option.bind_some]
  rcases hc with ⟨hr,ht,hD1⟩ | ⟨hr,hH,hj,h1,h2,h3⟩
  ·rw [hr,Zn (by decide),zaU (by have:=zbz hl; omega)]
   obtain ⟨r2,σ2,g2,e2,hR2,hS⟩:=zg1 hu hv hm n k (i:=i - 1) (by omega) (by omega) (by omega) hR1 hD1 (rfl:((0:Int),false)=(0,false))
   exact ⟨r2,σ2,g2,e2,hR2,hE.trans hS.ext,hS.hdt,fun h=>(by obtain ⟨a,b,c⟩:=hS.no h; exact ⟨a,b.trans ht,c⟩),fun h=>by obtain ⟨a,b,c,d⟩:=hS.yes h; exact ⟨a,by rw [<-hE.has]; exact b,by rw [<-ht]; exact c,by rw [d,ht]⟩⟩
  ·rw [hr,Zp Z]
   exact ⟨r,σ1,g1,rfl,hR1,hE,hH,fun h=>(by rw [hr] at h; cases h),fun _=>⟨hj,h1,h2,h3⟩⟩
theorem zif (hR:zau l pr σ g) (hH:Hdt l g) {s:Int} (hh:g.has s=true) {k:Nat} (hk:560<k):∃ b o σ' g',zbk l p k σ s=some ((g.tr s,b,o),σ')/\zau l pr σ' g'/\Sought l (g.del s) g' (g.u s) (g.v s) (b,o) \/
  ∃ σ',g.tr s=false/\zbk l p k σ s=some ((false,0,false),σ')/\zau l pr σ' (g.del s)/\Hdt l (g.del s):=by
 have hr:=hR.rng hl hh
 have e:=hR.eget hl hh
 unfold zbk
 dsimp only
 rw [e]
 dsimp only
 cases ht:g.tr s with
 | false =>
  refine ⟨0,false,σ,g,.inr ?_⟩
  obtain ⟨σ1,e1,hR1⟩:=hR.remove_del hl hh ht hk
  rw [Zn (by decide),show zeH l σ s=σ from Z,e1]
  exact ⟨_,Z,Z,hR1,hH.del ht⟩
 | true =>
  obtain ⟨σ1,e1,hR1⟩:=hR.fell_del hl hp hh ht hk
  have htop:=(hH.top hl (fun q hq=>by have:=hR.rng hl hq; exact ⟨this.2.1,this.2.2.1⟩) hh).1
  have hb:¬Conn (fun q=>Pg g 0 q/\q≠s) g.u g.v (g.u s) (g.v s):=by
   obtain ⟨F,mk,L,hI⟩:=hR
   exact (hI.tours 0 (by have:=zbz hl; omega)).bridge hl (by have:=zbz hl; omega) hI.lm.forest ⟨hh,ht,hr.2.2.1⟩
  have hD:=DelI.start hH hh ht ⟨⟨hr.2.1.1,by omega⟩,by omega,hr.2.1.2.2⟩ hr.2.2.1 hb
  obtain ⟨r,σ2,g2,e2,hR2,hS⟩:=zg1 hl hp ⟨hr.2.1.1,by omega⟩ ⟨by omega,hr.2.1.2.2⟩ hk ((g.lv s).toNat+1) k (i:=g.lv s) (by omega) (by have:=zbz hl; omega) htop hR1 hD (rfl:((0:Int),false)=(0,false))
  refine ⟨r.1,r.2,σ2,g2,.inl ?_⟩
  rw [Zp Z,show zeH l σ s=σ from Z,e1]
  dsimp only [Option.bind_some]
  rw [e2]
  exact ⟨Z,hR2,hS⟩
theorem zie (hR:zau l pr σ g) (hH:Hdt l g) {s a b:Int} (hsr:0<=s/\s<l.S) (ha:0<=a/\a<l.V) (hb:0<=b/\b<l.V) (hne:a≠b) (hno:g.has s=false) (hfree:∀ s,g.has s=true->¬(g.u s=min a b/\g.v s=max a b)) {k:Nat} (hk:560<k) :
  ∃ t σ',zbf l p k σ s a b=some (t,σ')/\(t=false↔Jn g 0 a b)/\zau l pr σ' (g.put s (min a b) (max a b) 0 t)/\Hdt l (g.put s (min a b) (max a b) 0 t):=by
 have lb:=zbz hl
 obtain ⟨j,e,hj⟩:=hR.same hl (i:=0) (u:=a) (v:=b) ⟨by omega,ha⟩ ⟨by omega,hb⟩ hk
 have hmm:Jn g 0 (min a b) (max a b)↔Jn g 0 a b:=by
  rcases Int.lt_or_le a b with h | h
  ·rw [Int.min_eq_left (by omega),Int.max_eq_right (by omega)]
  ·rw [Int.min_eq_right h,Int.max_eq_left h]; exact ⟨fun c=>c.symm,fun c=>c.symm⟩
 unfold zbf
 rw [e]
 dsimp only [Option.bind_some]
 cases j with
 | true =>
  obtain ⟨σ',e1,hR1⟩:=hR.put_add hl hp hsr (a:=a) (b:=b) (by omega) (by omega) (by omega) hno hfree hk
  rw [Zp Z,e1]
  exact ⟨false,σ',Z,⟨fun _=>hj.1 Z,fun _=>Z⟩,hR1,hH.put_add hno (hmm.2 (hj.1 Z))⟩
 | false =>
  have hnj:¬Jn g 0 a b:=fun c=>by have:=hj.2 c; cases this
  obtain ⟨σ',e1,hR1⟩:=hR.put_plant hl hp hsr (a:=a) (b:=b) (by omega) (by omega) (by omega) hno hfree (fun c=>hnj (hmm.1 c)) hk
  rw [Zn (by decide),e1]
  exact ⟨true,σ',rfl,⟨fun h=>(by cases h),fun c=>absurd c hnj⟩,hR1,hH.put_plant hno⟩
end
structure Dc (g:G) (d:Array EdR):Prop where
 row:∀ i,i<d.size->g.has d[i]!.slot=true/\g.u d[i]!.slot=d[i]!.u/\g.v d[i]!.slot=d[i]!.v/\d[i]!.lv=0/\d[i]!.tr=false
 cov:∀ s,g.has s=true->∃ i,i<d.size/\d[i]!.slot=s
 inj:∀ i j,i<d.size->j<d.size->d[i]!.slot=d[j]!.slot->i=j
theorem Dc.nil:Dc G0 #[]:=⟨fun i hi=>absurd hi (Nat.not_lt_zero i),fun s (hs:false=true)=>(by cases hs),fun i j hi=>absurd hi (Nat.not_lt_zero i)⟩
theorem Dc.ext {g g':G} {d:Array EdR} (h:Dc g d) (hh:g'.has=g.has) (hu:g'.u=g.u) (hv:g'.v=g.v):Dc g' d:=⟨fun i hi=>by rw [hh,hu,hv]; exact h.row i hi,fun s hs=>h.cov s (by rw [<-hh]; exact hs),h.inj⟩
theorem Dc.put {g:G} {d:Array EdR} (h:Dc g d) {s u v:Int} {t:Bool} (hno:g.has s=false):Dc (g.put s u v 0 t) (d++#[⟨s,u,v,0,false⟩]):=by
 have g1:∀ j,j<d.size->(d++#[(⟨s,u,v,0,false⟩:EdR)])[j]! =d[j]!:=fun j hj=>get!_app hj
 have g2:(d++#[(⟨s,u,v,0,false⟩:EdR)])[d.size]! =⟨s,u,v,0,false⟩:=by simp
 have hs:∀ j,j<d.size->d[j]!.slot≠s:=fun j hj e=>by have:=(h.row j hj).1; rw [e,hno] at this; cases this
 refine ⟨fun i hi=>?_,fun q hq=>?_,fun i j hi hj e=>?_⟩
 ·by_cases hi':i<d.size
  ·rw [g1 i hi']
   have:=hs i hi'
   unfold G.put updB updI; simpa [this] using h.row i hi'
  ·obtain rfl:i=d.size:=by simp at hi; omega
   rw [g2]; unfold G.put updB updI; simp
 ·by_cases e:q=s
  ·exact ⟨d.size,by simp,by rw [g2]; exact e.symm⟩
  ·obtain ⟨i,hi,he⟩:=h.cov q (by unfold G.put updB at hq; simpa [e] using hq)
   exact ⟨i,by simp; omega,by rw [g1 i hi]; exact he⟩
 ·simp at hi hj
  by_cases hi':i<d.size<;>by_cases hj':j<d.size
  ·rw [g1 i hi',g1 j hj'] at e; exact h.inj i j hi' hj' e
  ·obtain rfl:j=d.size:=by omega
   rw [g1 i hi',g2] at e; exact absurd e (hs i hi')
  ·obtain rfl:i=d.size:=by omega
   rw [g1 j hj',g2] at e; exact absurd e.symm (hs j hj')
  ·omega
theorem Dc.del {l:Lay} (hl:l.Ok) {g:G} {d:Array EdR} (h:Dc g d) {i:Nat} (hi:i<d.size):Dc (g.del d[i]!.slot) (cutA d i):=by
 have hz:=zjX hl hi
 have hg:∀ j,j<d.size - 1->(cutA d i)[j]! =if j<i then d[j]! else d[j+1]!:=fun j hj=>zgl hl hi hj
 have hne:∀ j,j<d.size->j≠i->d[j]!.slot≠d[i]!.slot:=fun j hj hji e=>hji (h.inj j i hj hi e)
 have row:∀ j,j<d.size->j≠i->(g.del d[i]!.slot).has d[j]!.slot=true/\(g.del d[i]!.slot).u d[j]!.slot=d[j]!.u/\(g.del d[i]!.slot).v d[j]!.slot=d[j]!.v/\d[j]!.lv=0/\d[j]!.tr=false:=fun j hj hji=>by
  have:=hne j hj hji
  unfold G.del updB; simpa [this] using h.row j hj
 refine ⟨fun j hj=>?_,fun q hq=>?_,fun a b ha hb e=>?_⟩
 ·rw [hz] at hj; rw [hg j hj]
  split
  ·exact row j (by omega) (by omega)
  ·exact row (j+1) (by omega) (by omega)
 ·have e:q≠d[i]!.slot:=fun e=>by subst e; unfold G.del updB at hq; simp at hq
  obtain ⟨j,hj,he⟩:=h.cov q (by unfold G.del updB at hq; simpa [e] using hq)
  have hji:j≠i:=fun h=>e (by rw [<-he,h])
  rcases Nat.lt_or_ge j i with hlt | hge
  ·exact ⟨j,by omega,by rw [hg j (by omega),Zp hlt]; exact he⟩
  ·exact ⟨j - 1,by omega,by rw [hg _ (by omega),Zn (by omega),show j - 1+1=j by omega]; exact he⟩
 ·rw [hz] at ha hb
  rw [hg a ha,hg b hb] at e
  split at e<;>split at e
  ·exact h.inj a b (by omega) (by omega) e
  ·have:=h.inj a (b+1) (by omega) (by omega) e; omega
  ·have:=h.inj (a+1) b (by omega) (by omega) e; omega
  ·have:=h.inj (a+1) (b+1) (by omega) (by omega) e; omega
def prN (f:Nat->EdR):Nat->Array (Int×Int)
 | 0=>#[]
 | n+1=>prN f n++#[((f n).u,(f n).v)]
theorem ziC {f:Nat->EdR}:∀ {n:Nat},(prN f n).size=n
 | 0=>rfl
 | n+1=>by rw [prN]; have:=ziC (f:=f) (n:=n); simp [this]
theorem zlj {f:Nat->EdR}:∀ {n k:Nat},k<n->(prN f n)[k]! =((f k).u,(f k).v)
 | n+1,k,h=>by
  rw [prN]
  by_cases hk:k<n
  ·rw [get!_app (by rw [ziC]; exact hk)]; exact zlj hk
  ·obtain rfl:k=n:=by omega
   have:=get!_app2 (a:=prN f k) (b:=#[((f k).u,(f k).v)]) (j:=0) (by simp)
   rw [ziC] at this
   rw [Nat.add_zero] at this; rw [this]; rfl
noncomputable def jdB (d:Array EdR) (u v:Int):Bool:=zsG (fun k=>(prN (fun i=>d[i]!) d.size)[k]!) (prN (fun i=>d[i]!) d.size).size u v
def bwB (d:Array EdR) (u v:Int) (i:Nat):Bool:=decide (d[i]!.u=min u v/\d[i]!.v=max u v)
structure R14 (l:Lay) (pr:Int->Int) (σ:M) (g:G) (d:Array EdR):Prop where
 rt:zau l pr σ g
 hd:Hdt l g
 dc:Dc g d
section
variable {l:Lay} (hl:l.Ok) {pr:Int->Int} {σ σ':M} {g g':G} {d:Array EdR}
include hl
theorem R14.size (h:R14 l pr σ g d):d.size<=l.S:=by
 have:=zef l.S ((List.range d.size).map fun i=>d[i]!.slot+1) (by
  refine List.Pairwise.map _ (fun i j hij=>hij) (List.Pairwise.imp_of_mem (R:=fun i j=>i≠j) (fun {i j} hi hj hij he=>?_) List.nodup_range)
  exact hij (h.dc.inj i j (List.mem_range.1 hi) (List.mem_range.1 hj) (by omega))) (fun x hx=>by
  obtain ⟨i,hi,rfl⟩:=List.mem_map.1 hx
  have:=(h.rt.rng hl (h.dc.row i (List.mem_range.1 hi)).1).1
  omega)
 simpa using this
theorem R14.rng (h:R14 l pr σ g d) {i:Nat} (hi:i<d.size):(0<=d[i]!.slot/\d[i]!.slot<l.S)/\(0<=d[i]!.u/\d[i]!.u<d[i]!.v/\d[i]!.v<l.V):=by
 obtain ⟨h1,h2,h3,h4,h5⟩:=h.dc.row i hi
 have:=h.rt.rng hl h1
 rw [h2,h3] at this; exact ⟨this.1,this.2.1⟩
def Wh (g:G) (u v:Int):Prop:=Conn (fun q=>g.has q=true) g.u g.v u v
omit hl in
theorem Wh.jn (hH:Hdt l g) (hr:∀ q,g.has q=true->0<=g.lv q) {u v:Int}:Wh g u v↔Jn g 0 u v:=by
 constructor
 ·intro c
  induction c with
  | refl=>exact .refl _
  | @step w x _ q hq he ih =>
   have hj:Jn g 0 (g.u q) (g.v q):=by
    cases ht:g.tr q with
    | true=>exact .step (.refl _) q ⟨hq,ht,hr q hq⟩ (.inl ⟨Z,Z⟩)
    | false=>exact (hH.nt q hq ht).down (hr q hq)
   rcases he with ⟨e1,e2⟩ | ⟨e1,e2⟩
   ·rw [<-e1] at ih; rw [<-e2]; exact ih.trans hj
   ·rw [<-e1] at ih; rw [<-e2]; exact ih.trans hj.symm
 ·intro c
  exact c.mono fun q hq=>hq.1
theorem R14.wh (h:R14 l pr σ g d) {u v:Int}:Wh g u v↔Jn g 0 u v:=Wh.jn h.hd fun q hq=>(h.rt.rng hl hq).2.2.1
theorem R14.jd (h:R14 l pr σ g d) {u v:Int}:jdB d u v=true↔Wh g u v:=by
 unfold jdB zsG
 rw [@decide_eq_true_eq _ (Classical.propDecidable _),ziC]
 unfold CN Wh
 constructor
 ·intro c
  induction c with
  | refl=>exact .refl _
  | @step w x _ k hk he ih =>
   have hkn:k.toNat<d.size:=by omega
   dsimp only at he
   rw [zlj hkn] at he
   obtain ⟨r1,r2,r3,_⟩:=h.dc.row _ hkn
   exact .step ih _ r1 (by rw [r2,r3]; exact he)
 ·intro c
  induction c with
  | refl=>exact .refl _
  | @step w x _ q hq he ih =>
   obtain ⟨j,h1,rfl⟩:=h.dc.cov q hq
   obtain ⟨r1,r2,r3,_⟩:=h.dc.row j h1
   rw [r2,r3] at he
   have hr:=(h.rng hl h1).2
   refine .step ih (j:Int) ⟨by omega,by omega,?_⟩ ?_
   ·dsimp only; rw [Int.toNat_natCast,zlj h1]; exact hr.1
   ·dsimp only; rw [Int.toNat_natCast,zlj h1]; exact he
theorem R14.joined (h:R14 l pr σ g d) {u v:Int} (hu:0<=u/\u<l.V) (hv:0<=v/\v<l.V):Go.Tm.same l 561 σ 0 u v=some (jdB d u v,σ):=by
 have lb:=zbz hl
 obtain ⟨b,e,hb⟩:=h.rt.same hl (i:=0) (u:=u) (v:=v) ⟨by omega,hu⟩ ⟨by omega,hv⟩ (k:=561) (by decide)
 rw [e]
 have:b=jdB d u v:=by
  rw [Bool.eq_iff_iff,hb,h.jd hl,h.wh hl]
 rw [this]
end
structure Op3 where
 kind:Int
 u:Int
 v:Int
 deriving Inhabited,DecidableEq
def ztY (x:Op3):List Value:=[.int .i64 x.kind,.int .i64 x.u,.int .i64 x.v]
section
variable {l:Lay} (hl:l.Ok) {pr:Int->Int} {σ σ':M} {g g':G} {d:Array EdR}
include hl
end
def Val3 (l:Lay) (o:Op3):Prop:=o.u≠o.v/\0<=o.u/\o.u<l.V/\0<=o.v/\o.v<l.V
section
variable {l:Lay} (hl:l.Ok) {pr:Int->Int} {σ σ':M} {g g':G} {d:Array EdR}
include hl
omit hl in
theorem R14.edges (h:R14 l pr σ g d):EdgeOk l σ g:=by obtain ⟨F,mk,L,hI⟩:=h.rt; exact hI.edges
end
section
variable {l:Lay} (hl:l.Ok) {pr:Int->Int} {σ σ':M} {g g' g2:G} {d d2:Array EdR} {fo:Nat->Op3} {ix:Nat->Nat} {i:Nat}
include hl
end
def lowc (l:Lay) (j:Int):Prop:=(∃ s,j=l.ends s\/j=l.level s)\/(∃ a b,j=l.edge a b)\/(∃ s d,j=l.next s d\/j=l.prev s d)\/∃ v i,j=l.head v i
section
variable {S:Type} [MemLike S] {l:Lay} {p:Pen} {σ0 σ:S}
inductive Rch (l:Lay) (p:Pen) (σ0:S):S->Prop
 | refl:Rch l p σ0 σ0
 | ld {σ:S} (i:Int) (h:Rch l p σ0 σ):Rch l p σ0 (ld σ i)
 | nf {σ:S} {x f v:Int} (h:Rch l p σ0 σ) (hf:f=3\/f=4\/f=6) (hv:0<=v/\v<18446744073709551616:=by first | exact zcV _ | exact zby _ _ | exact (by decide:(0:Int)<=0/\(0:Int)<18446744073709551616)):Rch l p σ0 (st σ (l.field x f) v)
 | par {σ:S} {x v:Int} (h:Rch l p σ0 σ) (hs:zbJ l x=false) (hv:0<=v/\v<18446744073709551616:=by first | exact zcV _ | exact zby _ _ | exact (by decide:(0:Int)<=0/\(0:Int)<18446744073709551616)):Rch l p σ0 (st σ (l.field x 2) v)
 | wr {σ:S} {x q:Int} (h:Rch l p σ0 σ) (hs:zbJ l x=true):Rch l p σ0 (p.write σ (l.field x 2) q)
 | low {σ:S} {j v:Int} (h:Rch l p σ0 σ) (hj:lowc l j) (hv:0<=v/\v<18446744073709551616:=by first | exact zcV _ | exact zby _ _ | exact (by decide:(0:Int)<=0/\(0:Int)<18446744073709551616)):Rch l p σ0 (st σ j v)
theorem zc3 {x f:Int} (h:Rch l p σ0 σ):Rch l p σ0 (zdY l σ x f):=h.ld _
theorem zri {x f v:Int} (h:Rch l p σ0 σ) (hf:f=3\/f=4\/f=6):Rch l p σ0 (tput l σ x f v):=h.nf hf
theorem zed {x:Int} (h:Rch l p σ0 σ):Rch l p σ0 (zcL l σ x):=h.ld _
theorem zkB {x q:Int} (h:Rch l p σ0 σ):Rch l p σ0 (hang l p σ x q):=by
 unfold hang
 split
 ·exact h
 ·split
  ·next hs=>exact h.wr hs
  ·next hs=>exact h.par (by simpa using hs)
theorem zcl {x:Int} (h:Rch l p σ0 σ):Rch l p σ0 (zb5 l σ x):=by
 unfold zb5; split
 ·exact h
 ·exact h.ld _
theorem zlu {x:Int} (h:Rch l p σ0 σ):Rch l p σ0 (zfQ l σ x):=zcl h
theorem zo9 {x m:Int}:∀ {n:Nat},Rch l p σ0 σ->Rch l p σ0 (zcd l σ x m n).2
 | 0,h=>h
 | n+1,h=>zcl (zc3 (zo9 h))
theorem znK {x m:Int} (h:Rch l p σ0 σ):Rch l p σ0 (zfc l σ x m):=(zo9 h).nf (.inr (.inr Z))
theorem zl9 {x:Int} (h:Rch l p σ0 σ):Rch l p σ0 (alone l p σ x):=(zkB (zri (zri h (.inl Z)) (.inr (.inl Z)))).nf (.inr (.inr Z)) (by unfold zfD; split<;>exact zby _ _)
theorem zo3 {x f c:Int} (h:Rch l p σ0 σ) (hf:f=3\/f=4\/f=6):Rch l p σ0 (setC l p σ x f c):=znK (zlu (zkB (zri h hf)))
theorem zk9:∀ {k:Nat} {σ:S} {x n:Int} {r:(Int×Int)×S},split l p k σ x n=some r->Rch l p σ0 σ->Rch l p σ0 r.2
 | 0,_,_,_,_,e,_=>by simp [split] at e
 | k+1,σ,x,n,r,e,h=>by
  rw [split] at e
  split at e
  ·cases e; exact h
  ·dsimp only at e
   split at e
   ·obtain ⟨a,h1,h2⟩:=Zb e
    cases h2
    exact zo3 (zk9 h1 (zcl (zc3 h))) (.inl Z)
   ·obtain ⟨a,h1,h2⟩:=Zb e
    cases h2
    exact zo3 (zk9 h1 (zc3 (zcl (zc3 h)))) (.inr (.inl Z))
theorem zf9 {k:Nat} {x n:Int} {r:(Int×Int)×S} (e:zeb l p k σ x n=some r) (h:Rch l p σ0 σ):Rch l p σ0 r.2:=by
 obtain ⟨a,h1,h2⟩:=Zb e
 cases h2
 exact zkB (zkB (zk9 h1 (zcl h)))
theorem zp6 {x y:Int} (h:Rch l p σ0 σ):Rch l p σ0 (zkZ l σ x y):=(h.ld _).ld _
theorem zlr:∀ {k:Nat} {σ:S} {a b:Int} {r:Int×S},merge l p k σ a b=some r->Rch l p σ0 σ->Rch l p σ0 r.2
 | 0,_,_,_,_,e,_=>by simp [merge] at e
 | k+1,σ,a,b,r,e,h=>by
  rw [merge] at e
  split at e
  ·cases e; exact h
  ·split at e
   ·cases e; exact h
   ·dsimp only at e
    split at e
    ·obtain ⟨c,h1,h2⟩:=Zb e
     cases h2
     exact zo3 (zlr h1 (zc3 (zp6 h))) (.inr (.inl Z))
    ·obtain ⟨c,h1,h2⟩:=Zb e
     cases h2
     exact zo3 (zlr h1 (zc3 (zp6 h))) (.inl Z)
theorem zgd {k:Nat} {a b:Int} {r:Int×S} (e:zei l p k σ a b=some r) (h:Rch l p σ0 σ):Rch l p σ0 r.2:=by
 obtain ⟨c,h1,h2⟩:=Zb e
 cases h2
 exact zkB (zlr h1 h)
theorem zpu:∀ {k:Nat} {σ:S} {q:Int} {r:S},zbO l k σ q=some r->Rch l p σ0 σ->Rch l p σ0 r
 | 0,_,_,_,e,_=>by simp [zbO] at e
 | k+1,σ,q,r,e,h=>by
  rw [zbO] at e
  split at e
  ·exact zpu e (zed (znK (zlu h)))
  ·cases e; exact h
theorem zso {k:Nat} {x m:Int} {on:Bool} {r:S} (e:zgq l k σ x m on=some r) (h:Rch l p σ0 σ):Rch l p σ0 r:=zpu e (zed (znK (zlu h)))
theorem zlP {m:Int}:∀ {k:Nat} {σ:S} {x:Int} {r:Int×S},zcO l m k σ x=some r->Rch l p σ0 σ->Rch l p σ0 r.2
 | 0,_,_,_,e,_=>by simp [zcO] at e
 | k+1,σ,x,r,e,h=>by
  rw [zcO] at e
  dsimp only at e
  split at e
  ·exact zlP e (zcl (zc3 h))
  ·split at e
   ·cases e; exact zcl (zcl (zc3 h))
   ·exact zlP e (zc3 (zcl (zcl (zc3 h))))
theorem zyn {k:Nat} {x m:Int} {r:Int×S} (e:first l k σ x m=some r) (h:Rch l p σ0 σ):Rch l p σ0 r.2:=by
 unfold first at e
 split at e
 ·exact zlP e (zcl h)
 ·cases e; exact zcl h
theorem zib:∀ {k:Nat} {σ:S} {x:Int} {r:Int×S},root l k σ x=some r->Rch l p σ0 σ->Rch l p σ0 r.2
 | 0,_,_,_,e,_=>by simp [root] at e
 | k+1,σ,x,r,e,h=>by
  rw [root] at e
  split at e
  ·split at e
   ·cases e; exact zed h
   ·exact zib e (zed h)
  ·cases e; exact h
theorem zlH:∀ {k:Nat} {σ:S} {x n:Int} {r:Int×S},zb0 l k σ x n=some r->Rch l p σ0 σ->Rch l p σ0 r.2
 | 0,_,_,_,_,e,_=>by simp [zb0] at e
 | k+1,σ,x,n,r,e,h=>by
  rw [zb0] at e
  split at e
  ·cases e; exact zed h
  ·dsimp only at e
   split at e
   ·exact zlH e (zcl (zc3 (zc3 (zed h))))
   ·exact zlH e (zc3 (zed h))
theorem zn1 {k:Nat} {x:Int} {r:Int×S} (e:index l k σ x=some r) (h:Rch l p σ0 σ):Rch l p σ0 r.2:=zlH e (zcl (zc3 h))
theorem zur {k:Nat} {i u:Int} {r:Int×S} (e:ze5 l p k σ i u=some r) (h:Rch l p σ0 σ):Rch l p σ0 r.2:=by
 obtain ⟨a,h1,e⟩:=Zb e
 obtain ⟨b,h2,e⟩:=Zb e
 obtain ⟨c,h3,e⟩:=Zb e
 exact zgd e (zf9 h3 (zn1 h2 (zib h1 h)))
theorem zry {k:Nat} {i u v:Int} {r:Bool×S} (e:same l k σ i u v=some r) (h:Rch l p σ0 σ):Rch l p σ0 r.2:=by
 obtain ⟨a,h1,e⟩:=Zb e
 obtain ⟨b,h2,e⟩:=Zb e
 cases e
 exact zib h2 (zib h1 h)
theorem zt4 {k:Nat} {i u:Int} {r:Int×S} (e:count l k σ i u=some r) (h:Rch l p σ0 σ):Rch l p σ0 r.2:=by
 obtain ⟨a,h1,e⟩:=Zb e
 cases e
 exact zcl (zib h1 h)
theorem zwL {k:Nat} {i s u v:Int} {r:Int×S} (e:link l p k σ i s u v=some r) (h:Rch l p σ0 σ):Rch l p σ0 r.2:=by
 obtain ⟨a,h1,e⟩:=Zb e
 obtain ⟨b,h2,e⟩:=Zb e
 obtain ⟨c,h3,e⟩:=Zb e
 obtain ⟨d,h4,e⟩:=Zb e
 exact zgd e (zgd h4 (zur h3 (zgd h2 (zur h1 h))))
theorem cut_r {k:Nat} {i s:Int} {r:(Int×Int)×S} (e:cut l p k σ i s=some r) (h:Rch l p σ0 σ):Rch l p σ0 r.2:=by
 obtain ⟨a,h1,e⟩:=Zb e
 obtain ⟨b,h2,e⟩:=Zb e
 obtain ⟨c,h3,e⟩:=Zb e
 obtain ⟨d,h4,e⟩:=Zb e
 obtain ⟨f,h5,e⟩:=Zb e
 obtain ⟨g,h6,e⟩:=Zb e
 obtain ⟨q,h7,e⟩:=Zb e
 obtain ⟨t,h8,e⟩:=Zb e
 cases e
 exact zgd h8 (zl9 (zl9 (zf9 h7 (zf9 h6 (zf9 h5 (zf9 h4 (zib h3 (zn1 h2 (zn1 h1 h)))))))))
theorem ztU {s u v i:Int} {t:Bool} (h:Rch l p σ0 σ):Rch l p σ0 (eput l σ s u v i t):=((h.low (.inl ⟨s,.inl Z⟩)).low (.inl ⟨s,.inr Z⟩)).low (.inr (.inl ⟨u,v,Z⟩))
theorem zhq {u v:Int} (h:Rch l p σ0 σ):Rch l p σ0 (zbW l σ u v):=h.low (.inr (.inl ⟨u,v,Z⟩))
theorem zfv {s:Int} (h:Rch l p σ0 σ):Rch l p σ0 (zeH l σ s):=((h.ld _).ld _).ld _
theorem ztQ {s:Int} {t:Bool} (h:Rch l p σ0 σ):Rch l p σ0 (zgs l σ s t):=(h.ld _).low (.inr (.inl ⟨_,_,Z⟩))
theorem zoq {s i:Int} (h:Rch l p σ0 σ):Rch l p σ0 (zgt l σ s i):=h.low (.inl ⟨s,.inr Z⟩)
theorem zek {v i:Int}:lowc l (l.head v i):=.inr (.inr (.inr ⟨v,i,Z⟩))
theorem zdG {x:Int}:lowc l (za7 l x):=.inr (.inr (.inl ⟨_,_,.inl Z⟩))
theorem zcM {x:Int}:lowc l (zaR l x):=.inr (.inr (.inl ⟨_,_,.inr Z⟩))
theorem zuy {k:Nat} {v i:Int} {r:S} (e:ze7 l k σ v i=some r) (h:Rch l p σ0 σ):Rch l p σ0 r:=by
 unfold ze7 at e
 dsimp only at e
 split at e
 ·exact zso e (zcl (h.ld _))
 ·cases e; exact zcl (h.ld _)
theorem zwz {k:Nat} {x v i:Int} {r:S} (e:push l k σ x v i=some r) (h:Rch l p σ0 σ):Rch l p σ0 r:=by
 unfold push at e
 dsimp only at e
 refine zuy e (Rch.low ?_ zek)
 split
 ·exact (((h.ld _).low zdG).low zcM).low zcM
 ·exact ((h.ld _).low zdG).low zcM
theorem zwC {k:Nat} {x v i:Int} {r:S} (e:pull l k σ x v i=some r) (h:Rch l p σ0 σ):Rch l p σ0 r:=by
 unfold pull at e
 dsimp only at e
 refine zuy e ?_
 have key:∀ τ:S,Rch l p σ0 τ->Rch l p σ0 (if aget (ld σ (zaR l x)) (za7 l x)≠0 then st τ (zaR l (aget (ld σ (zaR l x)) (za7 l x))) (IntKind.u64.wrap (aget σ (zaR l x))) else τ):=fun τ hτ=>by
  split
  ·exact hτ.low zcM
  ·exact hτ
 refine key _ ?_
 split
 ·exact ((h.ld _).ld _).low zek
 ·exact ((h.ld _).ld _).low zdG
theorem zzJ {k:Nat} {s:Int} {r:S} (e:add l k σ s=some r) (h:Rch l p σ0 σ):Rch l p σ0 r:=by
 obtain ⟨a,h1,e⟩:=Zb e
 exact zwz e (zwz h1 (zfv h))
theorem zg3 {k:Nat} {s:Int} {r:S} (e:remove l k σ s=some r) (h:Rch l p σ0 σ):Rch l p σ0 r:=by
 obtain ⟨a,h1,e⟩:=Zb e
 exact zwC e (zwC h1 (zfv h))
theorem zhM {k:Nat} {s i:Int} {on:Bool} {r:S} (e:lmark l k σ s i on=some r) (h:Rch l p σ0 σ):Rch l p σ0 r:=zso e h
theorem zpf {s u v:Int} {m:Nat}:∀ {k:Nat} {σ:S} {i n:Int} {r:S},zco l p s u v k m σ i n=some r->Rch l p σ0 σ->Rch l p σ0 r
 | 0,_,_,_,_,e,_=>by simp [zco] at e
 | k+1,σ,i,n,r,e,h=>by
  rw [zco] at e
  split at e
  ·obtain ⟨a,h1,e⟩:=Zb e
   exact zpf e (zwL h1 h)
  ·cases e; exact h
theorem zr2 {k:Nat} {s:Int} {r:S} (e:plant l p k σ s=some r) (h:Rch l p σ0 σ):Rch l p σ0 r:=by
 obtain ⟨a,h1,e⟩:=Zb e
 exact zhM e (zpf h1 (ztQ (zfv h)))
theorem zsZ {s:Int} {m:Nat}:∀ {k:Nat} {σ:S} {i n:Int} {r:S},zeq l p s k m σ i n=some r->Rch l p σ0 σ->Rch l p σ0 r
 | 0,_,_,_,_,e,_=>by simp [zeq] at e
 | k+1,σ,i,n,r,e,h=>by
  rw [zeq] at e
  split at e
  ·obtain ⟨a,h1,e⟩:=Zb e
   exact zsZ e (cut_r h1 h)
  ·cases e; exact h
theorem zAl {k:Nat} {s:Int} {r:S} (e:fell l p k σ s=some r) (h:Rch l p σ0 σ):Rch l p σ0 r:=zsZ e (zfv h)
theorem zuY {k:Nat} {s:Int} {r:S} (e:treeUp l p k σ s=some r) (h:Rch l p σ0 σ):Rch l p σ0 r:=by
 obtain ⟨a,h1,e⟩:=Zb e
 obtain ⟨b,h2,e⟩:=Zb e
 exact zhM e (zwL h2 (zoq (zhM h1 (zfv h))))
theorem zr8 {k:Nat} {s:Int} {r:S} (e:plain l k σ s=some r) (h:Rch l p σ0 σ):Rch l p σ0 r:=by
 obtain ⟨a,h1,e⟩:=Zb e
 exact zzJ e (zoq (zg3 h1 (zfv h)))
theorem ziM {k:Nat} {i v m:Int} {r:Int×S} (e:lfirst l k σ i v m=some r) (h:Rch l p σ0 σ):Rch l p σ0 r.2:=by
 obtain ⟨a,h1,e⟩:=Zb e
 exact zyn e (zib h1 h)
theorem zoQ {i v:Int} {m:Nat}:∀ {k:Nat} {σ:S} {x:Int} {r:S},zcn l p i v k m σ x=some r->Rch l p σ0 σ->Rch l p σ0 r
 | 0,_,_,_,e,_=>by simp [zcn] at e
 | k+1,σ,x,r,e,h=>by
  rw [zcn] at e
  split at e
  ·obtain ⟨a,h1,e⟩:=Zb e
   obtain ⟨b,h2,e⟩:=Zb e
   exact zoQ e (ziM h2 (zuY h1 h))
  ·cases e; exact h
theorem zxp {k:Nat} {i v:Int} {r:S} (e:trees l p k σ i v=some r) (h:Rch l p σ0 σ):Rch l p σ0 r:=by
 obtain ⟨a,h1,e⟩:=Zb e
 exact zoQ e (ziM h1 h)
theorem zrx {i v:Int} {m:Nat}:∀ {k:Nat} {σ:S} {x:Int} {r:(Int×Bool)×S},zde l i v k m σ x=some r->Rch l p σ0 σ->Rch l p σ0 r.2
 | 0,_,_,_,e,_=>by simp [zde] at e
 | k+1,σ,x,r,e,h=>by
  rw [zde] at e
  split at e
  ·obtain ⟨a,h1,e⟩:=Zb e
   have h0:=zry (p:=p) h1 (zfv (h.ld _))
   split at e
   ·obtain ⟨b,h2,e⟩:=Zb e
    obtain ⟨c,h3,e⟩:=Zb e
    exact zrx e (ziM h3 (zr8 h2 h0))
   ·cases e; exact h0
  ·cases e; exact h
theorem zzX {k:Nat} {i v:Int} {r:(Int×Bool)×S} (e:seek l k σ i v=some r) (h:Rch l p σ0 σ):Rch l p σ0 r.2:=by
 obtain ⟨a,h1,e⟩:=Zb e
 exact zrx e (ziM h1 h)
theorem zrr {k:Nat} {i u v:Int} {r:Int×S} (e:smaller l k σ i u v=some r) (h:Rch l p σ0 σ):Rch l p σ0 r.2:=by
 obtain ⟨a,h1,e⟩:=Zb e
 obtain ⟨b,h2,e⟩:=Zb e
 cases e
 have h0:=zt4 (p:=p) h2 (zt4 h1 h)
 exact h0
theorem zm1 {k:Nat} {s u v:Int} {r:Bool×S} (e:zbf l p k σ s u v=some r) (h:Rch l p σ0 σ):Rch l p σ0 r.2:=by
 obtain ⟨a,h1,e⟩:=Zb e
 dsimp only at e
 split at e
 ·obtain ⟨b,h2,e⟩:=Zb e
  cases e; exact zzJ h2 (ztU (zry h1 h))
 ·obtain ⟨b,h2,e⟩:=Zb e
  cases e; exact zr2 h2 (ztU (zry h1 h))
theorem zmA {k:Nat} {i u v:Int} {r:(Int×Bool)×S} (e:Go.Tm.replace l p k σ i u v=some r) (h:Rch l p σ0 σ):Rch l p σ0 r.2:=by
 unfold Go.Tm.replace at e
 split at e
 ·cases e; exact h
 ·obtain ⟨a,h1,e⟩:=Zb e
  obtain ⟨b,h2,e⟩:=Zb e
  obtain ⟨c,h3,e⟩:=Zb e
  have h0:=zzX (p:=p) h3 (zxp h2 (zrr h1 h))
  split at e
  ·obtain ⟨d,h4,e⟩:=Zb e
   obtain ⟨f,h5,e⟩:=Zb e
   cases e; exact zr2 h5 (zg3 h4 h0)
  ·cases e; exact h0
theorem zkr {u v:Int} {m:Nat}:∀ {k:Nat} {σ:S} {i:Int} {b:Int×Bool} {r:(Int×Bool)×S},zbb l p u v k m σ i b=some r->Rch l p σ0 σ->Rch l p σ0 r.2
 | 0,_,_,_,_,e,_=>by simp [zbb] at e
 | k+1,σ,i,b,r,e,h=>by
  rw [zbb] at e
  split at e
  ·obtain ⟨a,h1,e⟩:=Zb e
   split at e
   ·cases e; exact zmA h1 h
   ·exact zkr e (zmA h1 h)
  ·cases e; exact h
theorem zjx {k:Nat} {s:Int} {r:(Bool×Int×Bool)×S} (e:zbk l p k σ s=some r) (h:Rch l p σ0 σ):Rch l p σ0 r.2:=by
 unfold zbk at e
 dsimp only at e
 split at e
 ·obtain ⟨a,h1,e⟩:=Zb e
  obtain ⟨b,h2,e⟩:=Zb e
  cases e; exact zkr h2 (zhq (zAl h1 (zfv h)))
 ·obtain ⟨a,h1,e⟩:=Zb e
  cases e; exact zhq (zg3 h1 (zfv h))
end
theorem zap {σ:M} {i v j:Int} (h:j≠i):get (st σ i v:M) j=get σ j:=by
 rw [zf3,zf3,zj6]
 by_cases hi:0<=i/\i<σ.size
 ·rw [Zp hi,Array.size_setIfInBounds]
  by_cases h2:0<=j/\j<σ.size
  ·rw [Zp h2,Zp h2]
   have h1:j.toNat<σ.size:=by omega
   rw [getElem!_pos (σ.setIfInBounds i.toNat _) j.toNat (by simpa using h1),Array.getElem_setIfInBounds_ne _ (by omega),getElem!_pos σ j.toNat h1]
  ·rw [Zn h2,Zn h2]
 ·rw [Zn hi]
theorem zfS {σ:M} {j:Int} (h:j<0):get σ j=0:=by rw [zf3,Zn (by omega)]
theorem zkl {σ:M} {j v:Int} (h:j<0):(st σ j v:M)=σ:=by rw [zj6,Zn (by omega)]
section
variable {l:Lay} (hl:l.Ok) {p:Pen} {σ0 σ:M}
def zmF (l:Lay) (j:Int):Prop:=(0<=j/\j<=l.T)\/(∃ s:Int,(0<=s/\s<l.S)/\j=l.of s 0)\/∃ x f,l.nd x/\(f=0\/f=1\/f=5)/\j=l.field x f
include hl
theorem zcy {x f:Int} (hf:0<=f/\f<7):l.field x f=-1\/∃ y,l.nd y/\l.field x f=l.field y f/\l.node x=l.node y:=by
 have hn:=zaB hl
 obtain ⟨w,hw⟩:∃ w,IntKind.i64.wrap (x - 1)=w:=⟨_,rfl⟩
 by_cases h:below w l.nodes
 ·have hw2:IntKind.i64.wrap (w+1 - 1)=w:=by
   unfold below at h; rw [zaU (by omega)]; omega
  refine .inr ⟨w+1,⟨by unfold below at h; omega,by unfold below at h; omega⟩,?_,?_⟩
  ·unfold Lay.field; rw [hw,hw2]
  ·unfold Lay.node; rw [hw,hw2]
 ·refine .inl ?_
  unfold Lay.field
  rw [hw,Zn fun c=>h c.1]
theorem zaO {j:Int} (h:lowc l j) {x f:Int} (hx:l.nd x) (hf:0<=f/\f<7):j≠l.field x f:=fun e=>by
 have hb:=zaL hl hx hf
 have ho:=zb7 hl
 rw [<-e] at hb
 have hlow:j<l.base:=by
  rcases h with ⟨s,h⟩ | ⟨a,b,h⟩ | ⟨s,d,h⟩ | ⟨v,i,h⟩
  ·by_cases hs:0<=s/\s<l.S
   ·have:=zir hl hs; omega
   ·unfold Lay.ends Lay.level Lay.of at h; rw [Zn hs,Zn hs] at h; omega
  ·subst h
   unfold Lay.edge at *
   dsimp only at *
   split at hb
   ·omega
   ·next hc =>
    have hc:¬(min a b=max a b)/\(0<=min a b/\min a b<l.V)/\(0<=max a b/\max a b<l.V):=by
     unfold below at hc
     refine ⟨fun h=>hc (.inl h),?_,?_⟩
     ·exact Classical.byContradiction fun h=>hc (.inr (.inl h))
     ·exact Classical.byContradiction fun h=>hc (.inr (.inr h))
    have:=zdf hl (a:=min a b) (b:=max a b) ⟨hc.2.1.1,by omega⟩ hc.2.2.2
    have:=(zh5 hl (a:=min a b) (b:=max a b) ⟨hc.2.1.1,by omega⟩ hc.2.2.2).1
    unfold tri at this
    omega
  ·by_cases hs:0<=s/\s<l.S
   ·by_cases hd:0<=d/\d<2
    ·have h1:=zhK hl hs hd; have h2:=zhG hl hs hd
     have hh:l.heads=l.T+1+l.S * 7:=rfl
     rcases h with h | h<;>omega
    ·unfold Lay.next Lay.prev at h; rw [Zn hd,Zn hd] at h; omega
   ·unfold Lay.next Lay.prev Lay.of at h
    rw [Zn hs,Zn hs] at h
    rcases h with h | h<;>· split at h<;>omega
  ·by_cases hv:(0<=v/\v<l.V)/\(0<=i/\i<l.lev)
   ·have:=zez hl hv.1 hv.2; omega
   ·unfold Lay.head at h; rw [Zn (fun c=>hv c)] at h; omega
 omega
theorem zd6 {j:Int} (h:lowc l j) {q:Int} (hq:zmF l q):q≠j:=fun e=>by
 subst e
 rcases hq with hq | ⟨s0,hs0,hq⟩ | ⟨x,f,hx,hf,hq⟩
 ·have ho:=zb7 hl
  have hh:l.heads=l.T+1+l.S * 7:=rfl
  rcases h with ⟨s,h⟩ | ⟨a,b,h⟩ | ⟨s,d,h⟩ | ⟨v,i,h⟩
  ·by_cases hs:0<=s/\s<l.S
   ·have h1:=zdQ hl hs; have h2:=zc7 hl hs; omega
   ·unfold Lay.ends Lay.level Lay.of at h; rw [Zn hs,Zn hs] at h; omega
  ·unfold Lay.edge at h
   dsimp only at h
   split at h
   ·omega
   ·next hc =>
    have hc:¬(min a b=max a b)/\(0<=min a b/\min a b<l.V)/\(0<=max a b/\max a b<l.V):=by
     unfold below at hc
     refine ⟨fun h=>hc (.inl h),?_,?_⟩
     ·exact Classical.byContradiction fun h=>hc (.inr (.inl h))
     ·exact Classical.byContradiction fun h=>hc (.inr (.inr h))
    have:=zdf hl (a:=min a b) (b:=max a b) ⟨hc.2.1.1,by omega⟩ hc.2.2.2
    have:=(zh5 hl (a:=min a b) (b:=max a b) ⟨hc.2.1.1,by omega⟩ hc.2.2.2).1
    unfold tri at this
    have hle:l.heads<=l.edges:=ho.2.1
    omega
  ·by_cases hs:0<=s/\s<l.S
   ·by_cases hd:0<=d/\d<2
    ·have h1:=zhK hl hs hd; have h2:=zhG hl hs hd
     rcases h with h | h<;>omega
    ·unfold Lay.next Lay.prev at h; rw [Zn hd,Zn hd] at h; omega
   ·unfold Lay.next Lay.prev Lay.of at h
    rw [Zn hs,Zn hs] at h
    rcases h with h | h<;>· split at h<;>omega
  ·by_cases hv:(0<=v/\v<l.V)/\(0<=i/\i<l.lev)
   ·have:=zez hl hv.1 hv.2; omega
   ·unfold Lay.head at h; rw [Zn (fun c=>hv c)] at h; omega
 ·have ho:=zb7 hl
  have hh:l.heads=l.T+1+l.S * 7:=rfl
  rw [zg7 hl hs0] at hq
  rcases h with ⟨s,h⟩ | ⟨a,b,h⟩ | ⟨s,d,h⟩ | ⟨v,i,h⟩
  ·by_cases hs:0<=s/\s<l.S
   ·have h1:=zdQ hl hs; have h2:=zc7 hl hs; omega
   ·unfold Lay.ends Lay.level Lay.of at h; rw [Zn hs,Zn hs] at h; omega
  ·unfold Lay.edge at h
   dsimp only at h
   split at h
   ·omega
   ·next hc =>
    have hc:¬(min a b=max a b)/\(0<=min a b/\min a b<l.V)/\(0<=max a b/\max a b<l.V):=by
     unfold below at hc
     refine ⟨fun h=>hc (.inl h),?_,?_⟩
     ·exact Classical.byContradiction fun h=>hc (.inr (.inl h))
     ·exact Classical.byContradiction fun h=>hc (.inr (.inr h))
    have:=zdf hl (a:=min a b) (b:=max a b) ⟨hc.2.1.1,by omega⟩ hc.2.2.2
    have:=(zh5 hl (a:=min a b) (b:=max a b) ⟨hc.2.1.1,by omega⟩ hc.2.2.2).1
    unfold tri at this
    omega
  ·by_cases hs:0<=s/\s<l.S
   ·by_cases hd:0<=d/\d<2
    ·have h1:=zhK hl hs hd; have h2:=zhG hl hs hd
     rcases h with h | h<;>omega
    ·unfold Lay.next Lay.prev at h; rw [Zn hd,Zn hd] at h; omega
   ·unfold Lay.next Lay.prev Lay.of at h
    rw [Zn hs,Zn hs] at h
    rcases h with h | h<;>· split at h<;>omega
  ·by_cases hv:(0<=v/\v<l.V)/\(0<=i/\i<l.lev)
   ·have:=zez hl hv.1 hv.2; omega
   ·unfold Lay.head at h; rw [Zn (fun c=>hv c)] at h; omega
 ·exact zaO hl h hx (by omega) hq
theorem Rch.other (h:Rch l p σ0 σ) {j:Int} (hj:zmF l j):get σ j=get σ0 j:=by
 have ne:∀ {x f:Int},(f=2\/f=3\/f=4\/f=6)->j≠l.field x f:=fun {x f} hf e=>by
  rcases zcy hl (x:=x) (f:=f) (by omega) with h | ⟨y,hy,h,_⟩
  ·rcases hj with hj | ⟨s,hs,hj⟩ | ⟨z,g,hz,hg,hj⟩
   ·omega
   ·rw [zg7 hl hs] at hj; omega
   ·have:=zaL hl hz (f:=g) (by omega); omega
  ·rw [h] at e
   have hb:=zaL hl hy (f:=f) (by omega)
   have ho:=zb7 hl
   have hh:l.heads=l.T+1+l.S * 7:=rfl
   rcases hj with hj | ⟨s,hs,hj⟩ | ⟨z,g,hz,hg,hj⟩
   ·omega
   ·rw [zg7 hl hs] at hj; omega
   ·rw [hj,zac hl hz (by omega) hy (by omega)] at e; omega
 induction h with
 | refl=>rfl
 | ld i _ ih=>exact ih
 | nf _ hf _ ih=>rw [zap (ne (by omega)),ih]
 | par _ _ _ ih=>rw [zap (ne (by omega)),ih]
 | wr _ _ ih =>
  unfold Pen.write
  split
  ·split
   ·rw [zap (ne (by omega))]; exact ih
   ·exact ih
  ·exact ih
 | low _ hj' _ ih=>rw [zap (zd6 hl hj' hj),ih]
omit hl in
theorem Rch.size (h:Rch l p σ0 σ):σ.size=σ0.size:=by
 induction h with
 | refl=>rfl
 | ld i _ ih=>exact ih
 | nf _ _ _ ih=>rw [zaz,ih]
 | par _ _ _ ih=>rw [zaz,ih]
 | wr _ _ ih =>
  unfold Pen.write
  split
  ·split
   ·rw [zaz]; exact ih
   ·exact ih
  ·exact ih
 | low _ _ _ ih=>rw [zaz,ih]
def Snap (l:Lay) (p:Pen) (par0:Int->Int) (σ:M):Prop:=∀ x,l.nd x->zbJ l x=true->(zae (gf l σ x 2)).2=true /\
 ((zae (gf l σ x 2)).1.thread=0/\(zae (gf l σ x 2)).1.new=par0 x\/(zae (gf l σ x 2)).1.thread=p.thread/\(zae (gf l σ x 2)).1.tag=p.tag/\(zae (gf l σ x 2)).1.old=par0 x)
theorem Rch.snap (h:Rch l p σ0 σ) (hp:PenOk p) (hz:σ0.size=l.cells) {par0:Int->Int} (hS:Snap l p par0 σ0):Snap l p par0 σ:=by
 induction h with
 | refl=>exact hS
 | ld i _ ih=>exact ih
 | @nf σ x f v h hf _ ih =>
  intro y hy hs
  have:gf l (st σ (l.field x f) v) y 2=gf l σ y 2:=zap fun e=>by
   rcases zcy hl (x:=x) (f:=f) (by omega) with h | ⟨z,hz,h,_⟩
   ·have:=zaL hl hy (f:=2) (by decide); omega
   ·rw [h,zac hl hy (by decide) hz (by omega)] at e; omega
  rw [this]; exact ih y hy hs
 | @par σ x v h hsx _ ih =>
  intro y hy hs
  have:gf l (st σ (l.field x 2) v) y 2=gf l σ y 2:=zap fun e=>by
   rcases zcy hl (x:=x) (f:=2) (by omega) with h | ⟨z,hz,h,hn⟩
   ·have:=zaL hl hy (f:=2) (by decide); omega
   ·rw [h,zac hl hy (by decide) hz (by omega)] at e
    rw [e.1] at hs
    unfold zbJ at hs hsx
    rw [hn,hs] at hsx; cases hsx
  rw [this]; exact ih y hy hs
 | @low σ j v h hj _ ih =>
  intro y hy hs
  have:gf l (st σ j v) y 2=gf l σ y 2:=zap fun e=>zaO hl hj hy (by decide) e.symm
  rw [this]; exact ih y hy hs
 | @wr σ x q h hsx ih =>
  unfold Pen.write
  split
  ·next hu =>
   split
   ·next hr =>
    intro y hy hs
    rcases zcy hl (x:=x) (f:=2) (by omega) with h1 | ⟨z,hz',h1,hn⟩
    ·have:gf l (st (MemLike.ld σ (l.field x 2)) (l.field x 2) (p.to q (zae (get σ (l.field x 2))).1).pack) y 2=gf l σ y 2:=by rw [h1,zkl (by omega)]; rfl
     rw [this]; exact ih y hy hs
    ·by_cases e:y=z
     ·subst e
      have hto:=zcc.1 hr
      have hg:gf l (st (MemLike.ld σ (l.field x 2)) (l.field x 2) (p.to q (zae (get σ (l.field x 2))).1).pack) y 2=zee (p.to q (zae (gf l σ y 2)).1):=by
       rw [h1] at hto ⊢
       rw [zcT hto]
       show get (st σ (l.field y 2) _:M) (l.field y 2)=_
       rw [za4 hl (by rw [h.size]; exact hz) hy (by decide) (zbS hto),Zp Z]
      rw [h1] at hto
      rw [hg,za1 hto]
      obtain ⟨i1,i2⟩:=ih y hy hs
      refine ⟨Z,.inr ⟨Z,Z,?_⟩⟩
      show (if (zae (gf l σ y 2)).1.thread≠p.thread\/(zae (gf l σ y 2)).1.tag≠p.tag then (zae (gf l σ y 2)).1.new else (zae (gf l σ y 2)).1.old)=par0 y
      have:=hp.t
      rcases i2 with ⟨i2,i3⟩ | ⟨i2,i3,i4⟩
      ·rw [Zp (.inl (by omega)),i3]
      ·rw [Zn (by omega),i4]
     ·have:gf l (st (MemLike.ld σ (l.field x 2)) (l.field x 2) (p.to q (zae (get σ (l.field x 2))).1).pack) y 2=gf l σ y 2:=zap fun e2=>by
       rw [h1,zac hl hy (by decide) hz' (by decide)] at e2; exact e e2.1
      rw [this]; exact ih y hy hs
   ·exact ih
  ·exact ih
end
theorem zgU {tag:Int} (h:0<=tag/\tag<=16777215) (dn:Bool):zaT tag dn=tag * 2+bit dn:=by
 have e:shlU (IntKind.u64.wrap tag) 1=tag * 2:=by
  rw [zdK (by omega)]
  have:=zd0 (a:=tag) 1 (by decide) h.1 (by omega)
  rw [show (1:Int)=((1:Nat):Int) from Z,this]; omega
 unfold zaT
 rw [e]
 cases dn with
 | false=>simp [bit]
 | true =>
  have:=(zgI (a:=tag) (b:=1) 1 (by decide) h.1 (by omega) (by omega)).1
  rw [Zp Z,show tag * 2=tag * 2 ^ 1 by omega,this]; simp [bit]
theorem zi3 {tag:Int} (h:0<=tag/\tag<=16777215) (dn:Bool):tagV (zaT tag dn)=(tag,dn,true):=by
 have hb:0<=bit dn/\bit dn<=1:=by cases dn<;>decide
 rw [zgU h]
 unfold tagV
 have e1:shrU (tag * 2+bit dn) 1=tag:=by
  rw [show (1:Int)=((1:Nat):Int) from Z,ze9 1 (by decide)]; omega
 have e2:andU (tag * 2+bit dn) 1=bit dn:=by
  have:=zeD (a:=tag * 2+bit dn) 1 (by decide) ⟨by omega,by omega⟩
  rw [show (1:Int)=2 ^ 1 - 1 by decide,this]; omega
 rw [e1,e2,Zn (by omega),zaU (by omega)]
 cases dn<;>rfl
theorem zf8 {tag:Int} (h:0<=tag/\tag<=16777215) (dn:Bool):0<=zaT tag dn/\zaT tag dn<18446744073709551616:=by
 have hb:0<=bit dn/\bit dn<=1:=by cases dn<;>decide
 rw [zgU h]; omega
section
variable {l:Lay} (hl:l.Ok) {p:Pen} {σ σ':M}
def V0 (l:Lay) (x:Int):Prop:=l.nd x/\zbJ l x=true
include hl
theorem zcD {t:Int} (ht:1<=t/\t<=l.T):l.state t=t - 1:=by
 have hb:(l.T:Int)<=8:=by have:=hl.2.2.2.2; omega
 unfold Lay.state
 rw [zaU (by omega),if_pos ⟨by omega,by omega⟩]
inductive Up (par:Int->Int) (P:Int->Prop):Nat->Int->Int->Prop
 | top {x:Int} (hx:P x) (h0:par x=0):Up par P 1 x x
 | step {h:Nat} {x r:Int} (hx:P x) (h0:par x≠0) (hr:Up par P h (par x) r):Up par P (h+1) x r
omit hl
theorem Up.mono {par:Int->Int} {P Q:Int->Prop} {h:Nat} {x r:Int} (u:Up par P h x r) (hPQ:∀ y,P y->Q y):Up par Q h x r:=by
 induction u with
 | top hx h0=>exact .top (hPQ _ hx) h0
 | step hx h0 _ ih=>exact .step (hPQ _ hx) h0 ih
theorem Up.congr {par par':Int->Int} {P:Int->Prop} {h:Nat} {x r:Int} (u:Up par P h x r) (he:∀ y,P y->par' y=par y):Up par' P h x r:=by
 induction u with
 | top hx h0=>exact .top hx (by rw [he _ hx]; exact h0)
 | step hx h0 _ ih=>exact .step hx (by rw [he _ hx]; exact h0) (by rw [he _ hx]; exact ih)
theorem Up.last {par:Int->Int} {P:Int->Prop} {h:Nat} {x r:Int} (u:Up par P h x r):P r/\par r=0:=by
 induction u with
 | top hx h0=>exact ⟨hx,h0⟩
 | step _ _ _ ih=>exact ih
theorem Up.uniq {par:Int->Int} {P:Int->Prop} {h h':Nat} {x r r':Int} (u:Up par P h x r) (u':Up par P h' x r'):h=h'/\r=r':=by
 induction u generalizing h' r' with
 | top hx h0 =>
  cases u' with
  | top=>exact ⟨Z,Z⟩
  | step _ h1 _=>exact absurd h0 h1
 | step hx h0 _ ih =>
  cases u' with
  | top _ h1=>exact absurd h1 h0
  | step _ _ h2=>have:=ih h2; exact ⟨by omega,this.2⟩
include hl
theorem zzU {mk:Int->Int} {s t:T} {o:Nat} (h:Sub s t o) (h0:s.root≠0) (hr:repU l mk σ t):t.root≠0/\∃ d,d+s.size<=t.size/\∀ (k:Nat) (r:Int) (P:Int->Prop),(∀ y∈t.list,P y)->Up (parent l σ) P k t.root r->Up (parent l σ) P (k+d) s.root r:=by
 induction h with
 | refl=>exact ⟨h0,0,by omega,fun _ _ _ _ u=>u⟩
 | @left a b x o h ih =>
  obtain ⟨h1,h2,h3,h4,h5,h6,h7,h8,h9⟩:=hr
  obtain ⟨ha0,d,hd,hk⟩:=ih h6
  have hx0:x≠0:=by unfold Lay.nd at h1; omega
  refine ⟨hx0,d+1,by rw [T.size_node]; omega,fun k r P hP u=>?_⟩
  have:k+(d+1)=k+1+d:=by omega
  rw [this]
  refine hk _ r P (fun y hy=>hP y (by simp [T.list,hy])) (.step (hP _ (by simp [T.list,h6.root_mem ha0])) ?_ ?_)
  ·rw [h8 ha0]; exact hx0
  ·rw [h8 ha0]; exact u
 | @right a b x o h ih =>
  obtain ⟨h1,h2,h3,h4,h5,h6,h7,h8,h9⟩:=hr
  obtain ⟨ha0,d,hd,hk⟩:=ih h7
  have hx0:x≠0:=by unfold Lay.nd at h1; omega
  refine ⟨hx0,d+1,by rw [T.size_node]; omega,fun k r P hP u=>?_⟩
  have:k+(d+1)=k+1+d:=by omega
  rw [this]
  refine hk _ r P (fun y hy=>hP y (by simp [T.list,hy])) (.step (hP _ (by simp [T.list,h7.root_mem ha0])) ?_ ?_)
  ·rw [h9 ha0]; exact hx0
  ·rw [h9 ha0]; exact u
theorem Forest.up {pr mk:Int->Int} {F:Int->T} (hF:Forest l pr mk σ F) {x:Int} (hx:l.nd x):∃ h:Nat,(h:Int)<=l.nodes/\Up (parent l σ) (·∈(F x).list) h x (F x).root:=by
 obtain ⟨c,d,o,hs,_⟩:=zjn (hF.mem x hx)
 have hr:=hF.rep x hx
 have hx0:x≠0:=by unfold Lay.nd at hx; omega
 obtain ⟨h0,n,hn,hu⟩:=zzU hl hs hx0 hr
 have hsz:=T.size_node (a:=c) (b:=d) (x:=x)
 have hlen:((F x).size:Int)<=l.nodes:=by
  have hb:=zaB hl
  have:=zef l.nodes.toNat (F x).list (hF.nodup x hx) fun y hy=>by have:=hr.nd y hy; unfold Lay.nd at this; omega
  unfold T.size; omega
 exact ⟨1+n,by omega,hu 1 _ _ (fun y hy=>hy) (.top (hr.root_mem h0) (hF.top x hx))⟩
structure SeenF (l:Lay) (σ:M) (par rt:Int->Int):Prop where
 word:∀ x f,V0 l x->(f=1\/f=2)->(zae (gf l σ x f)).2=true/\((zae (gf l σ x f)).1.thread=0\/1<=(zae (gf l σ x f)).1.thread/\(zae (gf l σ x f)).1.thread<=l.T)
 mn:∀ x,V0 l x->zbe l σ (l.field x 2)=par x
 up:∀ x,V0 l x->∃ h:Nat,(h:Int)<=l.nodes/\Up par (V0 l) h x (rt x)
theorem zau.rows {pr:Int->Int} {g:G} (hR:zau l pr σ g):∃ F:Int->T,(∀ x,l.nd x->x∈(F x).list/\∀ y∈(F x).list,l.nd y/\F y=F x)/\(∀ x,V0 l x->(∀ y∈(F x).list,V0 l y)/\∃ h:Nat,(h:Int)<=l.nodes/\Up (parent l σ) (V0 l) h x (F x).root) /\
  (∀ u v:Int,0<=u/\u<l.V->0<=v/\v<l.V->((F (l.vertex 0 u)).root=(F (l.vertex 0 v)).root↔Jn g 0 u v))/\∀ x,V0 l x->((F x).root=x↔parent l σ x=0):=by
 obtain ⟨F,mk,L,hI⟩:=hR
 have hF:=hI.lm.forest
 have lb:=zbz hl
 have hT:=hI.tours 0 (by omega)
 have hv:∀ x,V0 l x->∀ y∈(F x).list,V0 l y:=fun x hx y hy=>⟨(hF.rep x hx.1).nd y hy,decide_eq_true (hT.lev x hx.1 (of_decide_eq_true hx.2) y hy)⟩
 have hup:∀ x,V0 l x->∃ h:Nat,(h:Int)<=l.nodes/\Up (parent l σ) (V0 l) h x (F x).root:=fun x hx=>by
  obtain ⟨h,h1,h2⟩:=hF.up hl hx.1
  exact ⟨h,h1,h2.mono (hv x hx)⟩
 refine ⟨F,fun x hx=>⟨hF.mem x hx,fun y hy=>⟨(hF.rep x hx).nd y hy,hF.cls x hx y hy⟩⟩,fun x hx=>⟨hv x hx,hup x hx⟩,fun u v hu hv=>?_,fun x hx=>⟨fun h=>?_,fun h=>?_⟩⟩
 ·have ou:l.okV 0 u:=⟨by omega,hu⟩
  have ov:l.okV 0 v:=⟨by omega,hv⟩
  rw [hF.roots hl (zaf hl ou).1 (zaf hl ov).1]
  exact hT.row_iff hl (by omega) ou ov
 ·obtain ⟨_,_,u⟩:=hup x hx
  have:=u.last.2; rw [h] at this; exact this
 ·obtain ⟨_,_,u⟩:=hup x hx
  exact (u.uniq (.top hx h)).2
end
def runN (l:Lay) (σ:M):Nat->ClimbS->ClimbS
 | 0,c=>c
 | n+1,c=>runN l σ n (c.stp l σ)
structure CInv (l:Lay) (σ:M) (c:ClimbS):Prop where
 nd:c.done=false
 v0:V0 l c.node
 cell:c.look.cell=l.field c.node (if c.top then 1 else 2)
 ld:c.look.done=false
 half:c.look.half=true->(1<=c.look.word.thread/\c.look.word.thread<=l.T)/\zey c.look.word (get σ (l.state c.look.word.thread))=zbe l σ c.look.cell
structure Ends (l:Lay) (σ:M) (c:ClimbS) (N:Nat) (r v:Int):Prop where
 go:∀ k,k<N->(runN l σ k c).done=false
 dn:(runN l σ N c).done=true
 root:(runN l σ N c).node=r
 ver:(runN l σ N c).version=v
 stp:∀ k,k<=N->(runN l σ k c).step=c.step+k
section
variable {l:Lay} (hl:l.Ok) {σ:M} {par rt:Int->Int} {c:ClimbS}
theorem Ends.cons {N:Nat} {r v:Int} (hd:c.done=false) (hs:(c.stp l σ).step=c.step+1) (h:Ends l σ (c.stp l σ) N r v):Ends l σ c (N+1) r v:=by
 refine ⟨fun k hk=>?_,h.dn,h.root,h.ver,fun k hk=>?_⟩
 ·cases k with
  | zero=>exact hd
  | succ k=>exact h.go k (by omega)
 ·cases k with
  | zero=>simp [runN]
  | succ k=>rw [show runN l σ (k+1) c=runN l σ k (c.stp l σ) from Z,h.stp k (by omega),hs]; omega
theorem Ends.zero (hd:c.done=true):Ends l σ c 0 c.node c.version:=⟨fun k hk=>absurd hk (Nat.not_lt_zero k),hd,Z,Z,fun k hk=>by
 have:k=0:=by omega
 subst this; simp [runN]⟩
include hl
theorem zbY {v:Int} (hv:0<=v/\v<l.V):CInv l σ (zbK l v)/\V0 l (l.vertex 0 v):=by
 have lb:=zbz hl
 have ov:l.okV 0 v:=⟨by omega,hv⟩
 have hs:=zaf hl ov
 have hV:V0 l (l.vertex 0 v):=⟨hs.1,by unfold zbJ; rw [hs.2.1]; rfl⟩
 exact ⟨⟨rfl,hV,rfl,rfl,fun h=>(by cases h)⟩,hV⟩
end
end Go.Tm
