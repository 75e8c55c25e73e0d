import Derived.Test.YtabjfnfglcghfaaGreatEngD
set_option linter.unusedVariables false
set_option linter.unusedSimpArgs false
set_option linter.unusedSectionVars false
namespace Go.Tm
open MemLike Eng
section
variable {l:Lay} (hl:l.Ok) {p:Pen} (hp:PenOk p) {pr:Int->Int} {σ σ':M} {g:G}
include hl
theorem zz1 (hz:σ.size=l.cells) (h1:∀ x,l.nd x->repU l mk0 σ (.node .nil x .nil)/\parent l σ x=0/\gf l σ x 5=pr x) (hlow:∀ j,lowc l j->get σ j=0):zau l pr σ G0:=by
 have hL:∀ x:Int,(T.node .nil x .nil).list=[x]:=fun x=>Z
 have hF:Forest l pr mk0 σ (fun x=>.node .nil x .nil):=⟨hz,fun x hx=>(h1 x hx).2.2,zpr hl,fun x _=>by simp [hL],fun x hx y hy=>by simp [hL] at hy; rw [hy],fun x _=>by simp [hL],fun x _=>⟨fun y hy=>(by cases hy),fun y hy=>(by cases hy),trivial,trivial⟩,fun x hx=>(h1 x hx).1,fun x hx=>(h1 x hx).2.1⟩
 have hb0:bitM 0 0=false/\bitM 0 1=false:=by decide +kernel
 refine ⟨_,mk0,fun _ _=>[],⟨⟨hF,⟨fun i v hv=>?_,fun _ _ _=>trivial,fun _ _ _ _ h=>(by cases h),fun _ _ _=>List.nodup_nil,fun _ _ _ _ _ _ _ h=>(by cases h)⟩,fun i v hv=>⟨by simp [mk0,hb0],by simp [mk0,hb0]⟩,fun s i hi=>⟨hb0.1,by simp [mk0,hb0,Kg,G0]⟩,fun s i hi=>hb0⟩,⟨fun s hs=>(by cases hs),fun s _ hs=>(by cases hs),fun s hs=>(by cases hs),fun s hs=>(by cases hs),fun s hs=>(by cases hs),fun a b h0 hab hbV _=>?_⟩,fun i v hv y=>?_,fun s hs=>(by cases hs.1),fun i s hs=>(by cases hs.1),fun i hi=>⟨?_,fun s hs=>(by cases hs.1),fun s d hd _=>rfl,fun s hs=>(by cases hs.1),fun s _ hs=>(by cases hs.1),fun s hs=>(by cases hs.1),fun u v hu hv he=>?_⟩⟩⟩
 ·rw [hlow _ zek]; rfl
 ·exact hlow _ (.inr (.inl ⟨a,b,Z⟩))
 ·constructor
  ·intro hy; cases hy
  ·rintro ⟨s,d,_,_,hs,_⟩; cases hs.1
 ·intro x hx hxl y hy; simp [hL] at hy; rw [hy]; exact hxl
 ·have:l.vertex i u=l.vertex i v:=by injection he
  rw [((zcW hl hu hv).1 this).2]; exact .refl _
theorem zsv {x:Int}:0<=zhh l x/\zhh l x<18446744073709551616:=by unfold zhh; split<;>decide
theorem zAX {c:Int} (h:(zae (get σ c)).2=true) (h0:(zae (get σ c)).1.new=0):zbs σ c=st σ c 0:=by
 unfold zbs
 rw [Zp h,h0,Zp (by decide +kernel),show (wofI 0).pack=0 by decide +kernel]
 rfl
include hp
theorem zqS {x y:Int} (hz:σ.size=l.cells) (hx:l.nd x) (hw:wOk l σ x) (hy:0<=y/\y<18446744073709551616) :
  (zf1 l p σ x y).size=l.cells/\(∀ j,(∀ f,0<=f/\f<7->j≠l.field x f)->get (zf1 l p σ x y) j=get σ j)/\repU l mk0 (zf1 l p σ x y) (.node .nil x .nil)/\gf l (zf1 l p σ x y) x 2=0/\gf l (zf1 l p σ x y) x 5=y/\gf l (zf1 l p σ x y) x 0=zhh l x/\gf l (zf1 l p σ x y) x 1=gf l σ x 1:=by
 have g1:=za4 hl hz hx (f:=5) (by decide) hy
 have z1:(st σ (l.field x 5) y:M).size=l.cells:=by rw [zaz]; exact hz
 have n1:∀ f,0<=f/\f<7->f≠5->gf l (st σ (l.field x 5) y) x f=gf l σ x f:=fun f hf hn=>by
  unfold gf; rw [g1,Zn fun e=>hn ((zac hl hx hf hx (by decide)).1 e).2]
 have w1:wOk l (st σ (l.field x 5) y) x:=by unfold wOk at *; rw [n1 2 (by decide) (by decide)]; exact hw
 obtain ⟨hf,hr,hpz⟩:=zh8 hl hp (zpr hl) z1 hx w1 rfl
 have z2:(Go.Tm.alone l p (st σ (l.field x 5) y) x).size=l.cells:=by rw [hf.size]; exact z1
 obtain ⟨τ,hτ⟩:∃ τ,Go.Tm.alone l p (st σ (l.field x 5) y) x=τ:=⟨_,rfl⟩
 rw [hτ] at hf hr hpz z2
 obtain ⟨_,r3,r4,r5,r6,_⟩:=hr
 have hu:(zae (gf l τ x 2)).2=true/\(zae (gf l τ x 2)).1.new=0:=by
  by_cases hs:zbJ l x=true
  ·refine ⟨r5.1 hs,?_⟩
   unfold parent pnew at hpz; rw [Zp hs] at hpz; exact hpz
  ·have hs:zbJ l x=false:=by simpa using hs
   have:=r5.2 hs
   have hg:=zlM τ (l.field x 2)
   unfold parent tget at hpz
   rw [Zn (by rw [hs]; decide),zaU (by unfold gf at this; omega)] at hpz
   have:gf l τ x 2=0:=hpz
   rw [this]; decide +kernel
 have e3:zbs τ (l.field x 2)=st τ (l.field x 2) 0:=zAX hl hu.1 hu.2
 have eb:zf1 l p σ x y=st (st τ (l.field x 2) 0) (l.field x 0) (zhh l x):=by unfold zf1; rw [hτ,e3]
 have z3:(st τ (l.field x 2) 0:M).size=l.cells:=by rw [zaz]; exact z2
 have g3:=za4 hl z2 hx (f:=2) (by decide) (v:=0) (by decide)
 have g4:=za4 hl z3 hx (f:=0) (by decide) (zsv hl (x:=x))
 rw [eb]
 have gx:∀ f,0<=f/\f<7->gf l (st (st τ (l.field x 2) 0) (l.field x 0) (zhh l x)) x f=if f=0 then zhh l x else if f=2 then 0 else gf l τ x f:=fun f hf2=>by
  unfold gf
  rw [g4]
  by_cases h0:f=0
  ·rw [Zp ((zac hl hx hf2 hx (by decide)).2 ⟨Z,h0⟩),Zp h0]
  ·rw [Zn fun e=>h0 ((zac hl hx hf2 hx (by decide)).1 e).2,Zn h0,g3]
   by_cases h2:f=2
   ·rw [Zp ((zac hl hx hf2 hx (by decide)).2 ⟨Z,h2⟩),Zp h2]
   ·rw [Zn fun e=>h2 ((zac hl hx hf2 hx (by decide)).1 e).2,Zn h2]
 refine ⟨by rw [zaz]; exact z3,fun j hj=>?_,⟨hx,by rw [gx 3 (by decide)]; simpa using r3,by rw [gx 4 (by decide)]; simpa using r4,⟨fun _=>?_,fun _=>?_⟩,by rw [gx 6 (by decide)]; simpa using r6,Zt,Zt,fun h=>absurd Z h,fun h=>absurd Z h⟩,by rw [gx 2 (by decide)]; simp,?_,by rw [gx 0 (by decide)]; simp,?_⟩
 ·rw [g4,Zn (hj 0 (by decide)),g3,Zn (hj 2 (by decide)),hf.same j fun z f hz' hzn hff=>by rw [hz']; exact hj f (by omega),g1,Zn (hj 5 (by decide))]
 ·rw [gx 2 (by decide),Zn (by decide),Zp Z]; decide +kernel
 ·rw [gx 2 (by decide),Zn (by decide),Zp Z]; decide
 ·rw [gx 5 (by decide)]
  simp only [show ((5:Int)=0)=False by simp,show ((5:Int)=2)=False by simp,if_false]
  rw [hf.gf' hl hx (by decide) (by decide)]
  unfold gf; rw [g1,Zp Z]
 ·rw [gx 1 (by decide)]
  simp only [show ((1:Int)=0)=False by simp,show ((1:Int)=2)=False by simp,if_false]
  rw [hf.gf' hl hx (by decide) (by decide),n1 1 (by decide) (by decide)]
omit hp
structure Born (l:Lay) (pr:Int->Int) (σ:M):Prop where
 size:σ.size=l.cells
 leaf:∀ x,l.nd x->repU l mk0 σ (.node .nil x .nil)
 par:∀ x,l.nd x->gf l σ x 2=0
 pri:∀ x,l.nd x->gf l σ x 5=pr x
 lock:∀ x,l.nd x->gf l σ x 0=zhh l x
 ver:∀ x,l.nd x->gf l σ x 1=0
 low:∀ j,lowc l j->get σ j=0
 st:∀ t:Int,0<=t/\t<l.T->get σ t=0
 nxt:∀ s:Int,0<=s/\s<l.S->get σ (l.of s 0)=if s+1<l.S then s+2 else 0
 free:get σ l.free=if l.S=0 then 0 else 1
omit hl
theorem zhD {τ:M} {N:Nat}:∀ {n:Nat},(∀ j,(∀ s:Int,0<=s->s<n->j≠l.of s 0)->get (zeM l n τ) j=get τ j)/\(zeM l n τ).size=τ.size
 | 0=>⟨fun j _=>Z,Z⟩
 | n+1=>by
  obtain ⟨h1,h2⟩:=zhD (τ:=τ) (N:=N) (n:=n)
  exact ⟨fun j hj=>by rw [zeM,zap (hj n (by omega) (by omega)),h1 j fun s h0 hs=>hj s h0 (by omega)],by rw [zeM,zaz,h2]⟩
include hl
theorem zms {τ:M} (hz:τ.size=l.cells):∀ {n:Nat},n<=l.S->∀ s:Int,0<=s->s<n->get (zeM l n τ) (l.of s 0)=s+2
 | n+1,hn,s,h0,hs=>by
  have hb:=zir hl (s:=n) ⟨by omega,by omega⟩
  have ho:=zb7 hl
  have hh:l.heads=l.T+1+l.S * 7:=rfl
  have hS:(l.S:Int)<=48:=by have:=hl.2.2.1; omega
  rw [zeM]
  by_cases e:s=n
  ·subst e
   rw [zcJ (by omega),if_pos ⟨Z,by rw [zg7 hl ⟨by omega,by omega⟩]; omega,by
    rw [zg7 hl ⟨by omega,by omega⟩,(zhD (N:=0)).2,hz]; omega⟩]
  ·rw [zap (by rw [zg7 hl ⟨by omega,by omega⟩,zg7 hl ⟨by omega,by omega⟩]; omega)]
   exact zms hz (by omega) s h0 (by omega)
theorem zqj {N:Nat} (hN:(N:Int)=l.cells):let τ:=zio l (Array.replicate N 0:M)
  (τ.size:Int)=l.cells/\(∀ j,¬zmF l j->get τ j=0)/\(∀ x f,l.nd x->0<=f/\f<7->gf l τ x f=0)/\(∀ t:Int,0<=t/\t<l.T->get τ t=0)/\(∀ s:Int,0<=s/\s<l.S->get τ (l.of s 0)=if s+1<l.S then s+2 else 0)/\get τ l.free=if l.S=0 then 0 else 1:=by
 have ho:=zb7 hl
 have hh:l.heads=l.T+1+l.S * 7:=rfl
 have hfr:l.free=l.T:=rfl
 have z0:((Array.replicate N 0:M).size:Int)=l.cells:=by simp [hN]
 have hof:∀ s:Int,0<=s/\s<l.S->l.of s 0=l.T+1+s * 7:=fun s hs=>by rw [zg7 hl hs]; omega
 dsimp only
 by_cases h0:l.S=0
 ·unfold zio
  rw [Zp h0]
  have g:∀ j,get (st (Array.replicate N 0:M) l.free 0:M) j=0:=fun j=>by
   rw [zcJ (by decide)]; split
   ·rfl
   ·exact zhR j
  exact ⟨by rw [zaz]; exact z0,fun j _=>g j,fun x f _ _=>g _,fun t _=>g t,fun s hs=>absurd hs (by omega),by rw [g,Zp h0]⟩
 ·unfold zio
  rw [Zn h0]
  obtain ⟨k1,k2⟩:=zhD (l:=l) (τ:=(Array.replicate N 0:M)) (N:=0) (n:=l.S)
  have z1:((st (zeM l l.S (Array.replicate N 0:M)) (l.of ((l.S:Int) - 1) 0) 0:M).size:Int)=l.cells:=by rw [zaz,k2]; exact z0
  have hlast:=hof ((l.S:Int) - 1) ⟨by omega,by omega⟩
  have gn:∀ j,j≠l.free->(∀ s:Int,0<=s->s<l.S->j≠l.of s 0)->get (st (st (zeM l l.S (Array.replicate N 0:M)) (l.of ((l.S:Int) - 1) 0) 0) l.free 1:M) j=0:=fun j h1 h2=>by
   rw [zap h1,zap (h2 _ (by omega) (by omega)),k1 j h2,zhR]
  refine ⟨by rw [zaz]; exact z1,fun j hj=>gn j (fun e=>hj (.inl ⟨by omega,by omega⟩)) fun s hs1 hs2 e=>hj (.inr (.inl ⟨s,⟨hs1,hs2⟩,e⟩)),fun x f hx hf=>gn _ (by have:=zaL hl hx hf; omega) fun s hs1 hs2 e=>?_,fun t ht=>gn t (by omega) fun s hs1 hs2 e=>?_,fun s hs=>?_,?_⟩
  ·have:=zaL hl hx hf; rw [hof s ⟨hs1,hs2⟩] at e; omega
  ·rw [hof s ⟨hs1,hs2⟩] at e; omega
  ·have e:=hof s hs
   rw [zap (by omega)]
   by_cases hl1:s=(l.S:Int) - 1
   ·subst hl1
    rw [zcJ (by decide),if_pos ⟨Z,by omega,by rw [k2]; omega⟩,Zn (by omega)]
   ·rw [zap (by omega),Zp (by omega)]
    exact zms hl (by exact_mod_cast z0) (Nat.le_refl _) s hs.1 (by omega)
  ·rw [zcJ (by decide),if_pos ⟨Z,by omega,by rw [z1]; omega⟩,Zn h0]
theorem zul {dn:Nat} {fd:Nat->Int} (hfd:∀ i,i<dn->0<=fd i/\fd i<18446744073709551616) {N:Nat} (hN:(N:Int)=l.cells):Born l (fun x=>if dn=0 then 0 else fd (x.toNat % dn)) (zf2 l dn fd (Array.replicate N 0)):=by
 obtain ⟨s1,s2,s3,s4,s5,s6⟩:=zqj hl hN
 obtain ⟨τ,hτ⟩:∃ τ,zio l (Array.replicate N 0:M)=τ:=⟨_,rfl⟩
 have hb:=zaB hl
 have ho:=zb7 hl
 rw [hτ] at s1 s2 s3 s4 s5 s6
 have key:∀ n:Nat,(n:Int)<=l.nodes->let σ:=zdI l dn fd n τ
   (σ.size:Int)=l.cells/\(∀ j,(∀ x f,l.nd x->0<=f/\f<7->x<=n->j≠l.field x f)->get σ j=get τ j)/\∀ x,l.nd x->x<=n->repU l mk0 σ (.node .nil x .nil)/\gf l σ x 2=0/\gf l σ x 5=(if dn=0 then 0 else fd (x.toNat % dn))/\gf l σ x 0=zhh l x/\gf l σ x 1=0:=by
  intro n
  induction n with
  | zero=>exact fun _=>⟨s1,fun j _=>Z,fun x hx h=>absurd hx.1 (by omega)⟩
  | succ n ih =>
   intro hn
   obtain ⟨k1,k2,k3⟩:=ih (by omega)
   have hx:l.nd ((n+1:Nat):Int):=⟨by omega,by omega⟩
   have hz:∀ f,0<=f/\f<7->gf l (zdI l dn fd n τ) ((n+1:Nat):Int) f=0:=fun f hf=>by
    unfold gf
    rw [k2 _ fun x g hx' hg hle e=>by have:=(zac hl hx hf hx' hg).1 e; omega]
    exact s3 _ f hx hf
   have hw:wOk l (zdI l dn fd n τ) ((n+1:Nat):Int):=⟨fun _=>by rw [hz 2 (by decide)]; decide +kernel,fun _=>by rw [hz 2 (by decide)]; decide⟩
   have hy:0<=(if dn=0 then (0:Int) else fd ((n+1) % dn))/\(if dn=0 then (0:Int) else fd ((n+1) % dn))<18446744073709551616:=by
    split
    ·decide
    ·exact hfd _ (Nat.mod_lt _ (by omega))
   obtain ⟨b1,b2,b3,b4,b5,b6,b7⟩:=zqS hl (p:=⟨1,0⟩) ⟨by decide,by decide⟩ k1 hx hw hy
   dsimp only
   rw [zdI]
   refine ⟨b1,fun j hj=>?_,fun x hx' hle=>?_⟩
   ·rw [b2 j fun f hf=>hj _ f hx hf (by omega),k2 j fun x f h1 h2 h3=>hj x f h1 h2 (by omega)]
   ·by_cases e:x=((n+1:Nat):Int)
    ·subst e
     exact ⟨b3,b4,by rw [b5]; simp,b6,by rw [b7,hz 1 (by decide)]⟩
    ·obtain ⟨q1,q2,q3,q4,q5⟩:=k3 x hx' (by omega)
     have hg:∀ f,0<=f/\f<7->gf l (zf1 l ⟨1,0⟩ (zdI l dn fd n τ) ((n+1:Nat):Int) (if dn=0 then 0 else fd ((n+1) % dn))) x f=gf l (zdI l dn fd n τ) x f:=fun f hf=>b2 _ fun g hg e2=>e ((zac hl hx' hf hx hg).1 e2).1
     obtain ⟨r1,r2,r3,r4,r5,_⟩:=q1
     exact ⟨⟨r1,by rw [hg 3 (by decide)]; exact r2,by rw [hg 4 (by decide)]; exact r3,by unfold wOk at *; rw [hg 2 (by decide)]; exact r4,by rw [hg 6 (by decide)]; exact r5,Zt,Zt,fun h=>absurd Z h,fun h=>absurd Z h⟩,by rw [hg 2 (by decide)]; exact q2,by rw [hg 5 (by decide)]; exact q3,by rw [hg 0 (by decide)]; exact q4,by rw [hg 1 (by decide)]; exact q5⟩
 obtain ⟨k1,k2,k3⟩:=key l.nodes.toNat (by omega)
 have e:zf2 l dn fd (Array.replicate N 0:M)=zdI l dn fd l.nodes.toNat τ:=by unfold zf2; rw [hτ]
 rw [e]
 have hle:∀ x,l.nd x->x<=(l.nodes.toNat:Int):=fun x hx=>by have:=hx.2; omega
 have hnf:∀ j,j<l.base->∀ x f,l.nd x->0<=f/\f<7->x<=(l.nodes.toNat:Int)->j≠l.field x f:=fun j hj x f hx hf _ e=>by have:=zaL hl hx hf; omega
 have hh:l.heads=l.T+1+l.S * 7:=rfl
 refine ⟨by exact_mod_cast k1,fun x hx=>(k3 x hx (hle x hx)).1,fun x hx=>(k3 x hx (hle x hx)).2.1,fun x hx=>(k3 x hx (hle x hx)).2.2.1,fun x hx=>(k3 x hx (hle x hx)).2.2.2.1,fun x hx=>(k3 x hx (hle x hx)).2.2.2.2,fun j hj=>?_,fun t ht=>?_,fun s hs=>?_,?_⟩
 ·rw [k2 j fun x f hx hf _=>zaO hl hj hx hf]
  exact s2 j fun ho=>zd6 hl hj ho Z
 ·rw [k2 t (hnf t (by omega))]; exact s4 t ht
 ·rw [k2 _ (hnf _ (by rw [zg7 hl hs]; omega))]; exact s5 s hs
 ·rw [k2 _ (hnf _ (by show (l.T:Int)<_; omega))]; exact s6
theorem Born.parent0 (h:Born l pr σ) {x:Int} (hx:l.nd x):parent l σ x=0:=by
 have e:=h.par x hx
 unfold gf at e
 unfold parent pnew tget
 rw [e]
 split<;>decide +kernel
theorem Born.right (h:Born l pr σ):zau l pr σ G0:=zz1 hl h.size (fun x hx=>⟨h.leaf x hx,h.parent0 hl hx,h.pri x hx⟩) h.low
end
section
variable {l:Lay} (hl:l.Ok) {p:Pen} (hp:PenOk p) {pr:Int->Int} {σ σ':M} {g g':G} {par0 ver0 rt0:Int->Int}
include hl
theorem zau.same_ (h:zau l pr σ g) (hz:σ'.size=σ.size) (hlow:∀ j,lowc l j->get σ' j=get σ j) (hf:∀ x f,l.nd x->(f=3\/f=4\/f=5\/f=6)->gf l σ' x f=gf l σ x f) (hw:∀ x,l.nd x->wOk l σ x->wOk l σ' x) (hpa:∀ x,l.nd x->parent l σ' x=parent l σ x):zau l pr σ' g:=by
 obtain ⟨F,mk,L,h⟩:=h
 have hF:=h.lm.forest
 have hr:∀ {t:T},repU l mk σ t->repU l mk σ' t:=by
  intro t
  induction t with
  | nil=>exact fun _=>Zt
  | node a x b iha ihb =>
   rintro ⟨h1,h2,h3,h4,h5,h6,h7,h8,h9⟩
   refine ⟨h1,by rw [hf x 3 h1 (by decide)]; exact h2,by rw [hf x 4 h1 (by decide)]; exact h3,hw x h1 h4,by rw [hf x 6 h1 (by decide)]; exact h5,iha h6,ihb h7,fun h0=>?_,fun h0=>?_⟩
   ·rw [hpa _ (h6.nd _ (h6.root_mem h0))]; exact h8 h0
   ·rw [hpa _ (h7.nd _ (h7.root_mem h0))]; exact h9 h0
 have hF':Forest l pr mk σ' F:=⟨by rw [hz]; exact hF.size,fun x hx=>by rw [hf x 5 hx (by decide)]; exact hF.pri x hx,hF.mkk,hF.mem,hF.cls,hF.nodup,hF.heap,fun x hx=>hr (hF.rep x hx),fun x hx=>by
  have hrr:=hF.rep x hx
  have h0:(F x).root≠0:=fun h0=>by have:=hrr.nil_iff.1 h0; have:=hF.mem x hx; simp_all [T.list]
  rw [hpa _ (hrr.nd _ (hrr.root_mem h0))]; exact hF.top x hx⟩
 have hE:∀ j,isE l j->get σ' j=get σ j:=fun j hj=>hlow j (by
  rcases hj with ⟨s,_,hj⟩ | ⟨a,b,_,_,_,hj⟩
  ·exact .inl ⟨s,hj⟩
  ·exact .inr (.inl ⟨a,b,hj⟩))
 have hL:∀ j,isL l j->get σ' j=get σ j:=fun j hj=>hlow j (by
  rcases hj with ⟨y,_,hj | hj⟩ | ⟨v,i,_,hj⟩
  ·rw [hj]; exact zdG
  ·rw [hj]; exact zcM
  ·rw [hj]; exact zek)
 exact ⟨F,mk,L,⟨⟨hF',h.lm.lists.congr hl hL,h.lm.mv,h.lm.ma,h.lm.mb⟩,h.edges.congr hl hE,h.mem,h.bh,h.ph,h.tours⟩⟩
omit hl in
theorem zmi {x:Int} (h:gf l σ' x 2=gf l σ x 2):wOk l σ x->wOk l σ' x:=fun hw=>by unfold wOk at *; rw [h]; exact hw
omit hl in
theorem zbD {x:Int} (h:gf l σ' x 2=gf l σ x 2):parent l σ' x=parent l σ x:=by
 unfold gf at h; unfold parent pnew tget; rw [h]
theorem zau.st_other (h:zau l pr σ g) {j v:Int} (hj:(0<=j/\j<=l.T)\/(∃ s:Int,(0<=s/\s<l.S)/\j=l.of s 0)\/∃ x f,l.nd x/\(f=0\/f=1)/\j=l.field x f):zau l pr (st σ j v) g:=by
 have ho:zmF l j:=by
  rcases hj with h | h | ⟨x,f,h1,h2,h3⟩
  ·exact .inl h
  ·exact .inr (.inl h)
  ·exact .inr (.inr ⟨x,f,h1,by omega,h3⟩)
 have hb:=zb7 hl
 have hh:l.heads=l.T+1+l.S * 7:=rfl
 have hn:∀ x f,l.nd x->(f=2\/f=3\/f=4\/f=5\/f=6)->gf l (st σ j v) x f=gf l σ x f:=fun x f hx hf=>zap fun e=>by
  have:=zaL hl hx (f:=f) (by omega)
  rcases hj with h | ⟨s,h1,h2⟩ | ⟨y,f',h1,h2,h3⟩
  ·omega
  ·rw [zg7 hl h1] at h2; omega
  ·rw [<-e,zac hl hx (by omega) h1 (by omega)] at h3; omega
 exact h.same_ hl zaz (fun q hq=>zap fun e=>zd6 hl hq ho e.symm) (fun x f hx hf=>hn x f hx (by omega)) (fun x hx=>zmi (hn x 2 hx (by decide))) fun x hx=>zbD (hn x 2 hx (by decide))
def zwk (l:Lay) (p:Pen) (ver0:Int->Int) (σ:M):Prop:=∀ x,V0 l x->(zae (gf l σ x 1)).2=true /\
 ((zae (gf l σ x 1)).1.thread=0/\(zae (gf l σ x 1)).1.new=ver0 x\/(zae (gf l σ x 1)).1.thread=p.thread/\(zae (gf l σ x 1)).1.tag=p.tag/\(zae (gf l σ x 1)).1.old=ver0 x)
structure Writ (l:Lay) (pr:Int->Int) (p:Pen) (par0 ver0:Int->Int) (σ:M) (g:G):Prop where
 rt:zau l pr σ g
 hd:Hdt l g
 sn:Snap l p par0 σ
 vn:zwk l p ver0 σ
 st:get σ (l.state p.thread)=zaT p.tag false
omit hl in
theorem zau.size (h:zau l pr σ g):σ.size=l.cells:=by obtain ⟨F,mk,L,h⟩:=h; exact h.lm.forest.size
theorem zgD (ht:1<=p.thread/\p.thread<=l.T):zmF l (l.state p.thread):=by rw [zcD hl ht]; exact .inl ⟨by omega,by omega⟩
include hp
theorem Writ.rch (h:Writ l pr p par0 ver0 σ g) (ht:p.thread<=l.T) (hR:Rch l p σ σ') (hr':zau l pr σ' g') (hd':Hdt l g'):Writ l pr p par0 ver0 σ' g':=by
 have htt:=hp.t
 refine ⟨hr',hd',hR.snap hl hp h.rt.size h.sn,fun x hx=>?_,by rw [hR.other hl (zgD hl ⟨htt.1,ht⟩)]; exact h.st⟩
 have:gf l σ' x 1=gf l σ x 1:=hR.other hl (.inr (.inr ⟨x,1,hx.1,.inr (.inl Z),Z⟩))
 rw [this]; exact h.vn x hx
theorem Writ.ins (h:Writ l pr p par0 ver0 σ g) (ht:p.thread<=l.T) {s u v:Int} (hs:0<=s/\s<l.S) (hu:0<=u/\u<l.V) (hv:0<=v/\v<l.V) (hne:u≠v) (hno:g.has s=false) (hf:∀ q,g.has q=true->¬(g.u q=min u v/\g.v q=max u v)) :
  ∃ t σ',zbf l p 561 σ s u v=some (t,σ')/\Writ l pr p par0 ver0 σ' (g.put s (min u v) (max u v) 0 t)/\Rch l p σ σ':=by
 obtain ⟨t,σ',e,_,hR,hH⟩:=zie hl hp h.rt h.hd hs hu hv hne hno hf (k:=561) (by decide)
 have hr:=zm1 (p:=p) e (.refl)
 exact ⟨t,σ',e,h.rch hl hp ht hr hR hH,hr⟩
theorem Writ.del (h:Writ l pr p par0 ver0 σ g) (ht:p.thread<=l.T) {s:Int} (hh:g.has s=true) :
  ∃ t b o σ' g',zbk l p 561 σ s=some ((t,b,o),σ')/\Writ l pr p par0 ver0 σ' g'/\g'.has=updB g.has s false/\g'.u=g.u/\g'.v=g.v/\Rch l p σ σ':=by
 obtain ⟨b,o,σ',g',h1 | ⟨σ2,h1,h2,h3,h4⟩⟩:=zif hl hp h.rt h.hd hh (k:=561) (by decide)
 ·obtain ⟨h1,h2,h3⟩:=h1
  have hr:=zjx (p:=p) h1 (.refl)
  exact ⟨_,b,o,σ',g',h1,h.rch hl hp ht hr h2 h3.hdt,h3.ext.has,h3.ext.u,h3.ext.v,hr⟩
 ·have hr:=zjx (p:=p) h2 (.refl)
  exact ⟨false,0,false,σ2,_,h2,h.rch hl hp ht hr h3 h4,Z,Z,Z,hr⟩
theorem Writ.words (hS:Snap l p par0 σ) (hV:zwk l p ver0 σ) (hpt:p.thread<=l.T):∀ x f,V0 l x->(f=1\/f=2)->(zae (gf l σ x f)).2=true/\((zae (gf l σ x f)).1.thread=0\/1<=(zae (gf l σ x f)).1.thread/\(zae (gf l σ x f)).1.thread<=l.T):=fun x f hx hf=>by
 have ht:=hp.t
 rcases hf with rfl | rfl
 ·obtain ⟨h1,h2⟩:=hV x hx
  exact ⟨h1,by omega⟩
 ·obtain ⟨h1,h2⟩:=hS x hx.1 hx.2
  exact ⟨h1,by omega⟩
structure Comm (l:Lay) (pr:Int->Int) (p:Pen) (σ:M) (g:G):Prop where
 rt:zau l pr σ g
 hd:Hdt l g
 sn:∃ par0,Snap l p par0 σ
 vn:∃ ver0,zwk l p ver0 σ
 st:get σ (l.state p.thread)=zaT p.tag true
theorem Writ.commit (h:Writ l pr p par0 ver0 σ g) (ht:p.thread<=l.T):Comm l pr p (za0 l p σ p.tag true) g/\(∀ j,j≠l.state p.thread->get (za0 l p σ p.tag true) j=get σ j):=by
 have htt:=hp.t
 have hg:=hp.g
 have hb:=zb7 hl
 have hh:l.heads=l.T+1+l.S * 7:=rfl
 have e:=zcD hl ⟨htt.1,ht⟩
 have hz:=h.rt.size
 unfold za0
 rw [if_pos ⟨by omega,by omega⟩]
 have ne:∀ j,j≠l.state p.thread->get (MemLike.st σ (l.state p.thread) (zaT p.tag true):M) j=get σ j:=fun j hj=>zap hj
 have hf:∀ x f,l.nd x->0<=f/\f<7->gf l (MemLike.st σ (l.state p.thread) (zaT p.tag true)) x f=gf l σ x f:=fun x f hx hf=>ne _ (by have:=zaL hl hx hf; omega)
 refine ⟨⟨h.rt.st_other hl (.inl ⟨by omega,by omega⟩),h.hd,⟨par0,fun x hx hs=>by rw [hf x 2 hx (by decide)]; exact h.sn x hx hs⟩,⟨ver0,fun x hx=>by rw [hf x 1 hx.1 (by decide)]; exact h.vn x hx⟩,?_⟩,ne⟩
 rw [zcJ (zf8 ⟨by omega,by omega⟩ true),if_pos ⟨Z,by omega,by rw [hz]; omega⟩]
omit hp
theorem zqZ {x:Int} (h:0<=x/\x<=65535):wofI x=⟨x,x,0,0⟩/\(wofI x).Ok:=by
 have e:wofI x=⟨x,x,0,0⟩:=by unfold wofI; rw [show min (max x 0) 65535=x by omega]
 rw [e]; exact ⟨Z,⟨by show 0<=x/\x<=65535; omega,by show 0<=x/\x<=65535; omega,by show (0:Int)<=0/\(0:Int)<=8; decide,by show (0:Int)<=0/\(0:Int)<=16777215; decide,fun _=>⟨Z,Z⟩⟩⟩
theorem zgH {c:Int} (hu:(zae (get σ c)).2=true) (hc:0<=c/\c<σ.size):zbs σ c=st σ c (zee ⟨(zae (get σ c)).1.new,(zae (get σ c)).1.new,0,0⟩)/\zae (get (zbs σ c) c)=(⟨(zae (get σ c)).1.new,(zae (get σ c)).1.new,0,0⟩,true)/\∀ j,j≠c->get (zbs σ c) j=get σ j:=by
 obtain ⟨hok,_⟩:=zcg hu
 obtain ⟨e,hw⟩:=zqZ hl hok.n
 have e1:zbs σ c=st σ c (zee ⟨(zae (get σ c)).1.new,(zae (get σ c)).1.new,0,0⟩):=by
  unfold zbs
  rw [Zp hu,Zp (zcc.2 hw),zcT hw,e]; rfl
 rw [e] at hw
 refine ⟨e1,?_,fun j hj=>by rw [e1]; exact zap hj⟩
 rw [e1,zcJ (zbS hw),if_pos ⟨Z,hc⟩,za1 hw]
def ze4 (l:Lay) (both:Bool):Nat->M->M
 | 0,σ=>σ
 | n+1,σ =>
  let τ:=ze4 l both n σ
  if zbJ l ((n+1:Nat):Int) then (if both then zbs (zbs τ (l.field ((n+1:Nat):Int) 2)) (l.field ((n+1:Nat):Int) 1) else zbs τ (l.field ((n+1:Nat):Int) 2)) else τ
def zbx (v x:Int):Prop:=zae v=(⟨x,x,0,0⟩,true)
theorem zow (hz:σ.size=l.cells) (hw:∀ x f,V0 l x->(f=1\/f=2)->(zae (gf l σ x f)).2=true) (both:Bool):∀ n:Nat,(n:Int)<=l.nodes->let τ:=ze4 l both n σ
  τ.size=l.cells/\(∀ j,(∀ x f,V0 l x->(f=1\/f=2)->j≠l.field x f)->get τ j=get σ j)/\(∀ x,V0 l x->zbx (gf l τ x 2) (zae (gf l σ x 2)).1.new\/(n:Int)<x/\gf l τ x 2=gf l σ x 2)/\(∀ x,V0 l x->(both=true/\zbx (gf l τ x 1) (zae (gf l σ x 1)).1.new)\/(both=true->(n:Int)<x)/\gf l τ x 1=gf l σ x 1):=by
 intro n
 induction n with
 | zero=>exact fun _=>⟨hz,fun j _=>Z,fun x hx=>.inr ⟨by have:=hx.1.1; omega,Z⟩,fun x hx=>.inr ⟨fun _=>by have:=hx.1.1; omega,Z⟩⟩
 | succ n ih =>
  intro hn
  obtain ⟨k1,k2,k3,k4⟩:=ih (by omega)
  have hx:l.nd ((n+1:Nat):Int):=⟨by omega,by omega⟩
  show let τ:=ze4 l both (n+1) σ; _
  rw [ze4]
  dsimp only
  by_cases hs:zbJ l ((n+1:Nat):Int)=true
  ·have hV:V0 l ((n+1:Nat):Int):=⟨hx,hs⟩
   obtain ⟨τ,hτ⟩:∃ τ,ze4 l both n σ=τ:=⟨_,rfl⟩
   rw [hτ] at k1 k2 k3 k4 ⊢
   rw [Zp hs]
   have c2:=zaL hl hx (f:=2) (by decide)
   have c1:=zaL hl hx (f:=1) (by decide)
   have e2:gf l τ ((n+1:Nat):Int) 2=gf l σ ((n+1:Nat):Int) 2:=by
    rcases k3 _ hV with h | ⟨_,h⟩
    ·have:=k3 _ hV
     rcases this with h | ⟨_,h⟩
     ·exact (by
       have hxx:¬(((n+1:Nat):Int)<=n):=by omega
       exact (Classical.byContradiction fun hne=>by
        exact hne (by
         have key:∀ m:Nat,m<=n->gf l (ze4 l both m σ) ((n+1:Nat):Int) 2=gf l σ ((n+1:Nat):Int) 2:=by
          intro m
          induction m with
          | zero=>exact fun _=>Z
          | succ m im =>
           intro hm
           rw [ze4]
           have im:=im (by omega)
           have hxm:l.nd ((m+1:Nat):Int):=⟨by omega,by omega⟩
           have ne1:l.field ((n+1:Nat):Int) 2≠l.field ((m+1:Nat):Int) 2:=fun e=>by have:=(zac hl hx (by decide) hxm (by decide)).1 e; omega
           have ne2:l.field ((n+1:Nat):Int) 2≠l.field ((m+1:Nat):Int) 1:=fun e=>by have:=(zac hl hx (by decide) hxm (by decide)).1 e; omega
           have pc:∀ {ρ:M} {c j:Int},j≠c->get (zbs ρ c) j=get ρ j:=fun {ρ c j} h=>by
            unfold zbs; split
            ·split
             ·rw [zap h]; rfl
             ·rfl
            ·rfl
           split
           ·split
            ·unfold gf at *; rw [pc ne2,pc ne1]; exact im
            ·unfold gf at *; rw [pc ne1]; exact im
           ·exact im
         rw [<-hτ]; exact key n (Nat.le_refl _))))
     ·exact h
    ·exact h
   have e1:gf l τ ((n+1:Nat):Int) 1=gf l σ ((n+1:Nat):Int) 1:=by
    have key:∀ m:Nat,m<=n->gf l (ze4 l both m σ) ((n+1:Nat):Int) 1=gf l σ ((n+1:Nat):Int) 1:=by
     intro m
     induction m with
     | zero=>exact fun _=>Z
     | succ m im =>
      intro hm
      rw [ze4]
      have im:=im (by omega)
      have hxm:l.nd ((m+1:Nat):Int):=⟨by omega,by omega⟩
      have ne1:l.field ((n+1:Nat):Int) 1≠l.field ((m+1:Nat):Int) 2:=fun e=>by have:=(zac hl hx (by decide) hxm (by decide)).1 e; omega
      have ne2:l.field ((n+1:Nat):Int) 1≠l.field ((m+1:Nat):Int) 1:=fun e=>by have:=(zac hl hx (by decide) hxm (by decide)).1 e; omega
      have pc:∀ {ρ:M} {c j:Int},j≠c->get (zbs ρ c) j=get ρ j:=fun {ρ c j} h=>by
       unfold zbs; split
       ·split
        ·rw [zap h]; rfl
        ·rfl
       ·rfl
      split
      ·split
       ·unfold gf at *; rw [pc ne2,pc ne1]; exact im
       ·unfold gf at *; rw [pc ne1]; exact im
      ·exact im
    rw [<-hτ]; exact key n (Nat.le_refl _)
   have u2:(zae (get τ (l.field ((n+1:Nat):Int) 2))).2=true:=by have:=hw _ 2 hV (.inr Z); rw [<-e2] at this; exact this
   obtain ⟨a1,a2,a3⟩:=zgH hl u2 ⟨c2.2.1,by rw [k1]; exact c2.2.2⟩
   have z2:(zbs τ (l.field ((n+1:Nat):Int) 2)).size=l.cells:=by rw [a1,zaz]; exact k1
   have n12:l.field ((n+1:Nat):Int) 1≠l.field ((n+1:Nat):Int) 2:=fun e=>by have:=(zac hl hx (by decide) hx (by decide)).1 e; omega
   have P2:zbx (get (zbs τ (l.field ((n+1:Nat):Int) 2)) (l.field ((n+1:Nat):Int) 2)) (zae (gf l σ ((n+1:Nat):Int) 2)).1.new:=by
    unfold zbx; rw [a2]; rw [<-e2]
   have oth:∀ x,V0 l x->x≠((n+1:Nat):Int)->∀ f,(f=1\/f=2)->l.field x f≠l.field ((n+1:Nat):Int) 2/\l.field x f≠l.field ((n+1:Nat):Int) 1:=fun x hx' hne f hf=>⟨fun e=>hne ((zac hl hx'.1 (by omega) hx (by decide)).1 e).1,fun e=>hne ((zac hl hx'.1 (by omega) hx (by decide)).1 e).1⟩
   cases both with
   | false =>
    rw [Zn (by decide)]
    refine ⟨z2,fun j hj=>by rw [a3 j (hj _ 2 hV (.inr rfl)),k2 j hj],fun x hx'=>?_,fun x hx'=>.inr ⟨fun h=>(by cases h),?_⟩⟩
    ·by_cases e:x=((n+1:Nat):Int)
     ·subst e; exact .inl P2
     ·rcases k3 x hx' with h | ⟨h1,h2⟩
      ·left; unfold gf; rw [a3 _ (oth x hx' e 2 (.inr Z)).1]; exact h
      ·right; exact ⟨by omega,by unfold gf; rw [a3 _ (oth x hx' e 2 (.inr Z)).1]; exact h2⟩
    ·rcases k4 x hx' with ⟨h,_⟩ | ⟨_,h⟩
     ·cases h
     ·unfold gf
      rw [a3 _ (fun e=>by have:=(zac hl hx'.1 (by decide) hx (by decide)).1 e; omega)]; exact h
   | true =>
    rw [Zp Z]
    have u1:(zae (get (zbs τ (l.field ((n+1:Nat):Int) 2)) (l.field ((n+1:Nat):Int) 1))).2=true:=by
     rw [a3 _ n12]
     have:=hw _ 1 hV (.inl Z); rw [<-e1] at this; exact this
    obtain ⟨b1,b2,b3⟩:=zgH hl u1 ⟨c1.2.1,by rw [z2]; exact c1.2.2⟩
    refine ⟨by rw [b1,zaz]; exact z2,fun j hj=>by rw [b3 j (hj _ 1 hV (.inl Z)),a3 j (hj _ 2 hV (.inr Z)),k2 j hj],fun x hx'=>?_,fun x hx'=>?_⟩
    ·by_cases e:x=((n+1:Nat):Int)
     ·subst e; left; unfold gf; rw [b3 _ (Ne.symm n12)]; exact P2
     ·have ho:=oth x hx' e 2 (.inr Z)
      rcases k3 x hx' with h | ⟨h1,h2⟩
      ·left; unfold gf; rw [b3 _ ho.2,a3 _ ho.1]; exact h
      ·right; exact ⟨by omega,by unfold gf; rw [b3 _ ho.2,a3 _ ho.1]; exact h2⟩
    ·by_cases e:x=((n+1:Nat):Int)
     ·subst e
      left; refine ⟨Z,?_⟩
      unfold zbx gf; rw [b2,a3 _ n12]
      unfold gf at e1; rw [e1]
     ·have ho:=oth x hx' e 1 (.inl Z)
      rcases k4 x hx' with ⟨_,h⟩ | ⟨h1,h2⟩
      ·left; refine ⟨Z,?_⟩; unfold gf; rw [b3 _ ho.2,a3 _ ho.1]; exact h
      ·right; exact ⟨fun _=>by have:=h1 Z; omega,by unfold gf; rw [b3 _ ho.2,a3 _ ho.1]; exact h2⟩
  ·rw [Zn hs]
   refine ⟨k1,k2,fun x hx'=>?_,fun x hx'=>?_⟩
   ·rcases k3 x hx' with h | ⟨h1,h2⟩
    ·exact .inl h
    ·right; refine ⟨?_,h2⟩
     have:x≠((n+1:Nat):Int):=fun e=>hs (e▸hx'.2)
     omega
   ·rcases k4 x hx' with h | ⟨h1,h2⟩
    ·exact .inl h
    ·right; refine ⟨fun hb=>?_,h2⟩
     have:x≠((n+1:Nat):Int):=fun e=>hs (e▸hx'.2)
     have:=h1 hb
     omega
end
structure Calm (l:Lay) (pr:Int->Int) (p:Pen) (ver:Int->Int) (σ:M) (g:G):Prop where
 rt:zau l pr σ g
 hd:Hdt l g
 pp:∀ x,V0 l x->zbx (gf l σ x 2) (parent l σ x)
 pv:∀ x,V0 l x->zbx (gf l σ x 1) (ver x)
 st:get σ (l.state p.thread)=zaT p.tag false
section
variable {l:Lay} (hl:l.Ok) {p:Pen} (hp:PenOk p) {pr:Int->Int} {σ σ':M} {g g':G} {par0 ver ver0 rt0:Int->Int}
theorem zbx.ok {v x:Int} (h:zbx v x):(zae v).2=true/\(zae v).1.thread=0/\(zae v).1.new=x/\(zae v).1.old=x:=by unfold zbx at h; rw [h]; exact ⟨Z,Z,Z,Z⟩
theorem zsb:zbx 0 0:=by
 have:=za1 (w:=⟨0,0,0,0⟩) ⟨by decide,by decide,by decide,by decide,fun _=>⟨Z,Z⟩⟩
 rw [show zee ⟨0,0,0,0⟩=0 by decide] at this; exact this
theorem zjg {x:Int} (hx:V0 l x) {y:Int} (h:zbx (gf l σ x 2) y):parent l σ x=y:=by
 unfold parent pnew; rw [Zp hx.2]; exact h.ok.2.2.1
include hl
theorem Calm.writ (h:Calm l pr p ver σ g):Writ l pr p (parent l σ) ver σ g :=
 ⟨h.rt,h.hd,fun x hx hs=>⟨(h.pp x ⟨hx,hs⟩).ok.1,.inl ⟨(h.pp x ⟨hx,hs⟩).ok.2.1,(h.pp x ⟨hx,hs⟩).ok.2.2.1⟩⟩,fun x hx=>⟨(h.pv x hx).ok.1,.inl ⟨(h.pv x hx).ok.2.1,(h.pv x hx).ok.2.2.1⟩⟩,h.st⟩
theorem Calm.seen (h:Calm l pr p ver σ g) {rt:Int->Int} (hup:∀ x,V0 l x->∃ h:Nat,(h:Int)<=l.nodes/\Up (parent l σ) (V0 l) h x (rt x)):SeenF l σ (parent l σ) rt :=
 ⟨fun x f hx hf=>by
  rcases hf with rfl | rfl
  ·exact ⟨(h.pv x hx).ok.1,.inl (h.pv x hx).ok.2.1⟩
  ·exact ⟨(h.pp x hx).ok.1,.inl (h.pp x hx).ok.2.1⟩,fun x hx=>by
  unfold zbe; dsimp only
  rw [Zp (.inr (h.pp x hx).ok.2.1)]; exact (h.pp x hx).ok.2.2.1,hup⟩
theorem Born.calm (h:Born l pr σ) (hT:1<=p.thread/\p.thread<=l.T) (h0:p.tag=0):Calm l pr p (fun _=>0) σ G0 :=
 ⟨h.right hl,Hdt.g0 hl,fun x hx=>by rw [h.par x hx.1,h.parent0 hl hx.1]; exact zsb,fun x hx=>by rw [h.ver x hx.1]; exact zsb,by
  rw [zcD hl hT,h0,h.st _ ⟨by omega,by omega⟩,zgU (by decide)]; rfl⟩
include hp
theorem Comm.clean (h:Comm l pr p σ g) (ht:p.thread<=l.T) (hg:p.tag+1<=16777215) (both:Bool) (hv:both=false->∀ x,V0 l x->zbx (gf l σ x 1) (zae (gf l σ x 1)).1.new) :
  let τ:=za0 l p (ze4 l both l.nodes.toNat σ) (p.tag+1) false
  Calm l pr ⟨p.thread,p.tag+1⟩ (fun x=>(zae (gf l σ x 1)).1.new) τ g/\(∀ j,(∀ x f,V0 l x->(f=1\/f=2)->j≠l.field x f)->j≠l.state p.thread->get τ j=get σ j)/\∀ x,V0 l x->parent l τ x=parent l σ x:=by
 have htt:=hp.t
 have hgg:=hp.g
 have hb:=zb7 hl
 have hn:=zaB hl
 have hh:l.heads=l.T+1+l.S * 7:=rfl
 have e:=zcD hl ⟨htt.1,ht⟩
 have hz:=h.rt.size
 obtain ⟨par0,hS⟩:=h.sn
 obtain ⟨ver0,hV⟩:=h.vn
 have hwd:=Writ.words hl hp hS hV ht
 obtain ⟨c1,c2,c3,c4⟩:=zow hl hz (fun x f hx hf=>(hwd x f hx hf).1) both l.nodes.toNat (by omega)
 obtain ⟨τ,hτ⟩:∃ τ,ze4 l both l.nodes.toNat σ=τ:=⟨_,rfl⟩
 rw [hτ] at c1 c2 c3 c4
 have d3:∀ x,V0 l x->zbx (gf l τ x 2) (zae (gf l σ x 2)).1.new:=fun x hx=>by
  rcases c3 x hx with h | ⟨h,_⟩
  ·exact h
  ·have:=hx.1.2; omega
 have d4:∀ x,V0 l x->zbx (gf l τ x 1) (zae (gf l σ x 1)).1.new:=fun x hx=>by
  rcases c4 x hx with ⟨_,h⟩ | ⟨h1,h2⟩
  ·exact h
  ·cases both with
   | true=>have:=h1 Z; have:=hx.1.2; omega
   | false=>rw [h2]; exact hv Z x hx
 have epar:∀ x,V0 l x->(zae (gf l σ x 2)).1.new=parent l σ x:=fun x hx=>by unfold parent pnew; rw [Zp hx.2]
 have ppar:∀ x,V0 l x->parent l τ x=parent l σ x:=fun x hx=>by rw [zjg hx (d3 x hx),epar x hx]
 have hnf:∀ j,lowc l j->get τ j=get σ j:=fun j hj=>c2 j fun x f hx hf=>zaO hl hj hx.1 (by omega)
 have rt1:zau l pr τ g:=h.rt.same_ hl (by exact_mod_cast (c1.trans hz.symm)) hnf (fun x f hx hf=>c2 _ fun y f' hy hf' e=>by have:=(zac hl hx (by omega) hy.1 (by omega)).1 e; omega) (fun x hx hw=>by
   by_cases hs:zbJ l x=true
   ·exact ⟨fun _=>(d3 x ⟨hx,hs⟩).ok.1,fun h=>absurd (hs.symm.trans h) (by decide)⟩
   ·exact zmi (c2 _ fun y f' hy hf' e=>by have:=(zac hl hx (by omega) hy.1 (by omega)).1 e; rw [this.1] at hs; exact hs hy.2) hw) fun x hx=>by
   by_cases hs:zbJ l x=true
   ·exact ppar x ⟨hx,hs⟩
   ·exact zbD (c2 _ fun y f' hy hf' e=>by have:=(zac hl hx (by omega) hy.1 (by omega)).1 e; rw [this.1] at hs; exact hs hy.2)
 have eP:za0 l p τ (p.tag+1) false=MemLike.st τ (l.state p.thread) (zaT (p.tag+1) false):=by unfold za0; rw [if_pos ⟨by omega,by omega⟩]
 dsimp only
 rw [hτ,eP]
 have ne:∀ j,j≠l.state p.thread->get (MemLike.st τ (l.state p.thread) (zaT (p.tag+1) false):M) j=get τ j:=fun j hj=>zap hj
 have hf:∀ x f,l.nd x->0<=f/\f<7->gf l (MemLike.st τ (l.state p.thread) (zaT (p.tag+1) false)) x f=gf l τ x f:=fun x f hx hf=>ne _ (by have:=zaL hl hx hf; omega)
 refine ⟨⟨rt1.st_other hl (.inl ⟨by omega,by omega⟩),h.hd,fun x hx=>?_,fun x hx=>?_,?_⟩,fun j hj hs=>by rw [ne j hs]; exact c2 j hj,fun x hx=>?_⟩
 ·rw [hf x 2 hx.1 (by decide),zbD (hf x 2 hx.1 (by decide)),ppar x hx,<-epar x hx]; exact d3 x hx
 ·rw [hf x 1 hx.1 (by decide)]; exact d4 x hx
 ·show get (MemLike.st τ (l.state p.thread) (zaT (p.tag+1) false):M) (l.state p.thread)=_
  rw [zcJ (zf8 ⟨by omega,by omega⟩ false),if_pos ⟨Z,by omega,by rw [c1]; omega⟩]
 ·rw [zbD (hf x 2 hx.1 (by decide)),ppar x hx]
omit hl hp
structure GA where
 has:Int->Bool
 u:Int->Int
 v:Int->Int
def GA.of (g:G):GA:=⟨g.has,g.u,g.v⟩
def GA.bt (a:GA) (o:Op3) (s:Int):Prop:=a.has s=true/\a.u s=min o.u o.v/\a.v s=max o.u o.v
end
section
variable {l:Lay} (hl:l.Ok) {p:Pen} (hp:PenOk p) {pr:Int->Int} {σ σ':M} {g g':G} {par0 ver0:Int->Int}
include hl
theorem EdgeOk.found (h:EdgeOk l σ g) {o:Op3} (hv:Val3 l o):(∃ s,(GA.of g).bt o s/\(0<=s/\s<l.S)/\g.has s=true/\find l σ o.u o.v=⟨s,g.tr s,true⟩/\∀ q,(GA.of g).bt o q->q=s)\/((¬∃ s,(GA.of g).bt o s)/\find l σ o.u o.v=⟨0,false,false⟩):=by
 obtain ⟨v1,v2,v3,v4,v5⟩:=hv
 have hsym:∀ a b,l.edge a b=l.edge (min a b) (max a b):=fun a b=>by
  rcases Int.lt_or_le a b with h | h
  ·rw [Int.min_eq_left (by omega),Int.max_eq_right (by omega)]
  ·rw [Int.min_eq_right h,Int.max_eq_left h]; exact znc hl
 by_cases hex:∃ s,(GA.of g).bt o s
 ·obtain ⟨s,hb⟩:=hex
  obtain ⟨b1,b2,b3⟩:=hb
  have b1:g.has s=true:=b1
  have b2:g.u s=min o.u o.v:=b2
  have b3:g.v s=max o.u o.v:=b3
  have hr:=h.rng s b1
  refine .inl ⟨s,⟨b1,b2,b3⟩,hr.1,b1,?_,fun q hq=>h.uniq q s hq.1 b1 (by have:g.u q=_:=hq.2.1; rw [this,b2]) (by have:g.v q=_:=hq.2.2; rw [this,b3])⟩
  have e:=zn9 hl h b1
  rw [b2,b3] at e
  unfold find at e ⊢
  rw [hsym o.u o.v]
  have h2:l.edge (min o.u o.v) (max o.u o.v)=l.edge (min (min o.u o.v) (max o.u o.v)) (max (min o.u o.v) (max o.u o.v)):=hsym _ _
  exact e
 ·refine .inr ⟨hex,?_⟩
  have e:=h.none (min o.u o.v) (max o.u o.v) (by omega) (by omega) (by omega) fun s hs hc=>hex ⟨s,hs,hc.1,hc.2⟩
  unfold find
  rw [hsym,e]; rfl
theorem Writ.edges (h:Writ l pr p par0 ver0 σ g):EdgeOk l σ g:=by obtain ⟨F,mk,L,hI⟩:=h.rt; exact hI.edges
end
section
variable {l:Lay} (hl:l.Ok) {σ σ':M} {par rt:Int->Int}
structure CTo (l:Lay) (σ:M) (rt:Int->Int) (r:Int) (c:ClimbS):Prop where
 inv:CInv l σ c
 to:if c.top then c.node=r else rt c.node=r
include hl
omit hl
structure Alike (l:Lay) (σ σ':M):Prop where
 wd:∀ x f,V0 l x->(f=1\/f=2)->gf l σ' x f=gf l σ x f
 st:∀ t:Int,1<=t/\t<=l.T->get σ' (l.state t)=get σ (l.state t)
theorem Alike.means (h:Alike l σ σ') (hS:SeenF l σ par rt) {x f:Int} (hx:V0 l x) (hf:f=1\/f=2):zbe l σ' (l.field x f)=zbe l σ (l.field x f):=by
 have e:=h.wd x f hx hf
 have hw:=hS.word x f hx hf
 unfold gf at e hw
 unfold zbe
 dsimp only
 rw [e]
 split
 ·rfl
 ·next hc =>
  have:¬((zae (get σ (l.field x f))).1.thread=0):=fun h0=>hc (.inr h0)
  rw [h.st _ (by omega)]
end
open Classical in
noncomputable def upH (l:Lay) (par rt:Int->Int) (x:Int):Nat:=if h:∃ h:Nat,(h:Int)<=l.nodes/\Up par (V0 l) h x (rt x) then Classical.choose h else 0
noncomputable def crem (l:Lay) (par rt:Int->Int) (c:ClimbS):Nat:=if c.top then (if c.look.half then 1 else 2) else 2 * upH l par rt c.node+(if c.look.half then 1 else 2)
section
variable {l:Lay} (hl:l.Ok) {σ σ':M} {par rt:Int->Int}
structure CGo (l:Lay) (σ:M) (par rt:Int->Int) (r:Int) (c:ClimbS):Prop where
 to:CTo l σ rt r c
 bd:0<=c.step/\c.step+crem l par rt c<=2 * l.nodes+2
include hl
abbrev lkF (l:Lay) (σ:M) (x:Int):Int:=gf l σ x 0
omit hl in
theorem ze8 {a b:Int}:(zaw a b).size=if a=b then 1 else 2:=by unfold zaw; split<;>rfl
omit hl in
theorem ziv {a b:Int} (h:1<(zaw a b).size):(zaw a b)[0]!<(zaw a b)[1]!:=by
 unfold zaw at *
 split at h
 ·simp at h
 ·rename_i hc; rw [Zn hc]; show min a b<max a b; omega
structure Held (l:Lay) (σ:M) (w:Array Int) (i:Int) (h:Array Int):Prop where
 le:h.size<=w.size
 eq:∀ k,k<h.size->h[k]! =w[k]!
 lk:∀ k,k<h.size->lkF l σ h[k]! =i
structure TInv (l:Lay) (σ:M) (par rt:Int->Int) (t:TakeS):Prop where
 uv:(0<=t.u/\t.u<l.V)/\0<=t.v/\t.v<l.V
 th:1<=t.thread/\t.thread<=l.T
 at_:0<=t.at_/\t.at_<=4
 held:Held l σ (zaw (rt (l.vertex 0 t.u)) (rt (l.vertex 0 t.v))) t.thread t.held
 h0:t.at_=0->t.held.size=0
 h1:t.at_=1->t.held.size<(zaw (rt (l.vertex 0 t.u)) (rt (l.vertex 0 t.v))).size/\t.want=zaw (rt (l.vertex 0 t.u)) (rt (l.vertex 0 t.v))/\t.which=0/\t.climb=zbK l t.u
 h2:t.at_=2\/t.at_=4->t.held=zaw (rt (l.vertex 0 t.u)) (rt (l.vertex 0 t.v))/\t.want=zaw (rt (l.vertex 0 t.u)) (rt (l.vertex 0 t.v))
 h3:t.at_=3->0<t.held.size
 cl:t.at_=0\/t.at_=2->(t.which=0/\CGo l σ par rt (rt (l.vertex 0 t.u)) t.climb)\/(t.which=1/\t.f0=rt (l.vertex 0 t.u)/\CGo l σ par rt (rt (l.vertex 0 t.v)) t.climb)
 tr:0<=t.tries/\t.tries<=1000000
noncomputable def trem (l:Lay) (par rt:Int->Int) (t:TakeS):Nat:=crem l par rt t.climb+if t.which=0 then 2 * upH l par rt (l.vertex 0 t.v)+2 else 0
end
section
variable {l:Lay} (hl:l.Ok) {σ σ':M} {par rt:Int->Int}
def zdV (l:Lay) (rt:Int->Int) (t:TakeS):Array Int:=zaw (rt (l.vertex 0 t.u)) (rt (l.vertex 0 t.v))
def fstT (l:Lay) (rt:Int->Int) (t:TakeS):Int:=(zdV l rt t)[0]!
def zdZ (r p i:Nat):Nat:=r+if i<p then 1 else 0
structure Q2 (l:Lay) (par rt:Int->Int) (n r p K:Nat) (m:Int) (ts:Nat->TakeS) (ov:Nat->Bool):Prop where
 mx:∀ j,j<n->ov j=false->fstT l rt (ts j)<=m
 lv:∀ j,j<n->ov j=false->fstT l rt (ts j)=m->(ts j).at_=3->zdZ r p j=0
 no:∀ j,j<n->ov j=false->(ts j).at_≠2/\(ts j).at_≠4
 wt:∃ a,a<n/\ov a=false/\fstT l rt (ts a)=m/\(((ts a).at_=1/\(ts a).held.size=1/\zdZ r p a<=K+2)\/((ts a).at_=1/\(ts a).held.size=0/\zdZ r p a<=K+1)\/((ts a).at_=0/\trem l par rt (ts a)+zdZ r p a<=K)\/((ts a).at_=3/\zdZ r p a=0))
include hl
end
section
variable {l:Lay} (hl:l.Ok) {σ σ':M} {par rt par' rt':Int->Int}
structure KInv (l:Lay) (σ:M) (par rt:Int->Int) (k K0:Int) (J:Int->Bool) (f e:Int) (st:Bool) (now:Int) (c:CollectS):Prop where
 uv:(0<=c.u/\c.u<l.V)/\0<=c.v/\c.v<l.V
 nd:c.done=false
 ci:CInv l σ c.climb
 sb:0<=c.climb.step/\c.climb.step<=c.steps
 ss:0<=c.steps/\c.steps<=now/\now<=100000000
 fe:K0<=f/\f<=e/\e<=k/\k<=1000000/\0<=K0
 fe0:c.second=false->e=f
 to:e=k->CTo l σ rt (rt (l.vertex 0 (if c.second then c.v else c.u))) c.climb
 lv:1<=c.rounds->c.last.v.version=f
 nu:c.second=true->c.now.u.version=e/\(f=e->e=k->c.now.u.root=rt (l.vertex 0 c.u))
 pt:f=k->1<=c.rounds->c.last.u.version=k->c.last.v.root=rt (l.vertex 0 c.v)/\(1<=c.last.at_/\c.last.at_<=now)/\J c.last.at_=decide (rt (l.vertex 0 c.u)=rt (l.vertex 0 c.v))
 sm:st=true->1<=c.rounds/\(f=k->c.last.u=⟨rt (l.vertex 0 c.u),k⟩/\c.last.v=⟨rt (l.vertex 0 c.v),k⟩)
 rd:0<=c.rounds/\c.rounds<=2 * (f - K0)+(if st then 1 else 0)
include hl
end
section
variable {l:Lay} (hl:l.Ok) {p:Pen} (hp:PenOk p) {pr:Int->Int} {σ σ':M} {g:G} {par rt par' rt' par0:Int->Int}
def zoH (σ:M) (c:ClimbS):Prop:=c.look.half=true->c.look.word=(zae (get σ c.look.cell)).1
include hl
omit hl in
theorem KInv.commit {k K0 f e now:Int} {J:Int->Bool} {st:Bool} {c:CollectS} (h:KInv l σ par rt k K0 J f e st now c) (hf:zoH σ c.climb)
  (hw:∀ x f,V0 l x->(f=1\/f=2)->1<=(zae (gf l σ x f)).1.thread->zey (zae (gf l σ x f)).1 (get σ' (l.state (zae (gf l σ x f)).1.thread))=zbe l σ' (l.field x f)) (hk:k+1<=1000000):KInv l σ' par' rt' (k+1) K0 J f e st now c:=by
 have hfe:=h.fe
 refine ⟨h.uv,h.nd,⟨h.ci.nd,h.ci.v0,h.ci.cell,h.ci.ld,fun hh=>?_⟩,h.sb,h.ss,by omega,h.fe0,fun he=>by omega,h.lv,fun hs=>⟨(h.nu hs).1,fun _ he=>by omega⟩,fun hf1=>by omega,fun hs=>⟨(h.sm hs).1,fun hf1=>by omega⟩,h.rd⟩
 obtain ⟨h1,_⟩:=h.ci.half hh
 refine ⟨h1,?_⟩
 have e:=hf hh
 rw [h.ci.cell] at e
 have:=hw c.climb.node (if c.climb.top then 1 else 2) h.ci.v0 (by cases c.climb.top<;>simp)
 unfold gf at this
 rw [<-e] at this
 rw [h.ci.cell]; exact this h1.1
include hp
structure Upd (l:Lay) (pr:Int->Int) (p:Pen) (par0:Int->Int) (k:Int) (σ:M) (g:G):Prop where
 w:Writ l pr p par0 (fun _=>k) σ g
 up:∀ x,V0 l x->(zae (gf l σ x 1)).1.new=k+1
end
section
variable {l:Lay} (hl:l.Ok) {p:Pen} (hp:PenOk p) {pr:Int->Int} {σ σ':M} {g:G} {par rt par' rt' par0:Int->Int}
theorem Calm.congr {ver ver':Int->Int} (h:Calm l pr p ver σ g) (he:∀ x,V0 l x->ver x=ver' x):Calm l pr p ver' σ g:=⟨h.rt,h.hd,h.pp,fun x hx=>by rw [<-he x hx]; exact h.pv x hx,h.st⟩
theorem zbx.means {x y:Int} (h:zbx (get σ x) y):zbe l σ x=y:=by
 unfold zbe; dsimp only; rw [Zp (.inr h.ok.2.1)]; exact h.ok.2.2.1
def zbX (l:Lay) (p:Pen) (both:Bool) (σ:M):M:=za0 l p (ze4 l both l.nodes.toNat (za0 l p σ p.tag true)) (p.tag+1) false
include hl hp
theorem Upd.commit {k:Int} (h:Upd l pr p par0 k σ g) (ht:p.thread<=l.T) (hg:p.tag+1<=16777215) :
  Calm l pr ⟨p.thread,p.tag+1⟩ (fun _=>k+1) (zbX l p true σ) g/\(∀ x,V0 l x->parent l (zbX l p true σ) x=parent l σ x) /\
  ∀ x f,V0 l x->(f=1\/f=2)->1<=(zae (gf l σ x f)).1.thread->zey (zae (gf l σ x f)).1 (get (zbX l p true σ) (l.state (zae (gf l σ x f)).1.thread))=zbe l (zbX l p true σ) (l.field x f):=by
 have htt:=hp.t
 have hgg:=hp.g
 have ho:=zb7 hl
 have hh:l.heads=l.T+1+l.S * 7:=rfl
 have es:=zcD hl ⟨htt.1,ht⟩
 obtain ⟨hC,hCn⟩:=h.w.commit hl hp ht
 obtain ⟨hK,_,hP⟩:=hC.clean hl hp ht hg true (fun h=>by cases h)
 have ec:∀ x f,V0 l x->0<=f/\f<7->gf l (za0 l p σ p.tag true) x f=gf l σ x f:=fun x f hx hf=>hCn _ (by have:=zaL hl hx.1 hf; omega)
 have hK2:Calm l pr ⟨p.thread,p.tag+1⟩ (fun _=>k+1) (zbX l p true σ) g:=hK.congr fun x hx=>by rw [ec x 1 hx (by decide)]; exact h.up x hx
 have hP2:∀ x,V0 l x->parent l (zbX l p true σ) x=parent l σ x:=fun x hx=>(hP x hx).trans (zbD (ec x 2 hx (by decide)))
 refine ⟨hK2,hP2,fun x f hx hf h1=>?_⟩
 have hst:get (zbX l p true σ) (l.state p.thread)=zaT (p.tag+1) false:=hK2.st
 have key:∀ w:Wd,w.thread=p.thread->w.tag=p.tag->zey w (get (zbX l p true σ) (l.state w.thread))=w.new:=fun w e1 e2=>by
  unfold zey
  rw [e1,hst,zi3 ⟨by omega,hg⟩,Zp Z]
  unfold zkw
  dsimp only
  rw [Zp (.inr (.inl (by omega)))]
 rcases hf with rfl | rfl
 ·obtain ⟨v1,v2⟩:=h.w.vn x hx
  have hw:(zae (gf l σ x 1)).1.thread=p.thread/\(zae (gf l σ x 1)).1.tag=p.tag:=by
   rcases v2 with ⟨q,_⟩ | ⟨q1,q2,_⟩
   ·omega
   ·exact ⟨q1,q2⟩
  rw [key _ hw.1 hw.2,h.up x hx]
  exact (hK2.pv x hx).means.symm
 ·obtain ⟨v1,v2⟩:=h.w.sn x hx.1 hx.2
  have hw:(zae (gf l σ x 2)).1.thread=p.thread/\(zae (gf l σ x 2)).1.tag=p.tag:=by
   rcases v2 with ⟨q,_⟩ | ⟨q1,q2,_⟩
   ·omega
   ·exact ⟨q1,q2⟩
  rw [key _ hw.1 hw.2]
  have:=(hK2.pp x hx).means (l:=l)
  rw [hP2 x hx] at this
  rw [this]
  unfold parent pnew; rw [Zp hx.2]
omit hp
theorem zau.roots (hR:zau l pr σ g):∃ rt:Int->Int,(∀ x,V0 l x->∃ h:Nat,(h:Int)<=l.nodes/\Up (parent l σ) (V0 l) h x (rt x))/\(∀ u v:Int,0<=u/\u<l.V->0<=v/\v<l.V->(rt (l.vertex 0 u)=rt (l.vertex 0 v)↔Jn g 0 u v))/\∀ x,V0 l x->(rt x=x↔parent l σ x=0):=by
 obtain ⟨F,h1,h2,h3,h4⟩:=hR.rows hl
 exact ⟨fun x=>(F x).root,fun x hx=>(h2 x hx).2,h3,h4⟩
end
def memF (σ:Array UInt64):Nat->Int:=fun i=>(σ[i]!.toNat:Int)
theorem zyb {σ:Array UInt64} {rs:Array Value} {i:Nat} (h:i<σ.size):lkCs (encM σ++rs) i 1=some (encU (memF σ i)):=by
 have e:nth (encM σ++rs).toList i=some (.int .u64 (memF σ i)):=by
  rw [zg8,Array.getElem?_toList,Array.getElem?_append_left (by rw [zfY]; exact h),zl3 σ h]; rfl
 simp only [lkCs,e]; rfl
theorem zya {mb:Nat} {σ:Array UInt64} {rs:Array Value} {T:TypeId}:zbj (pt mb (.cells (encM σ++rs) T)) encU 1 mb 0 σ.size (memF σ):=fun h hA i hi=>⟨_,T,(0,0),hA,by rw [Nat.zero_add,Nat.mul_one]; exact zyb hi⟩
theorem zxV {σ:Array UInt64} {e:Nat} {v:Value} {h:HF} (h0:0<σ.size) (hA:ownA encU 1 e v ((List.range σ.size).map (memF σ)).toArray h):∃ g cap rs,v=.slice (some ⟨g,0,none⟩) σ.size cap/\pt g (.cells (encM σ++rs) e) h:=by
 rcases hA with ⟨_,h2⟩ | ⟨g,cap,cur,h1,h2,h3,h4,h5,h6⟩
 ·rw [zeu] at h2; omega
 ·rw [zeu] at h1 h3 h6
  refine ⟨g,cap,cur.extract σ.size cur.size,h1,?_⟩
  have e:cur=encM σ++cur.extract σ.size cur.size:=by
   apply Array.ext_getElem?
   intro i
   rw [Array.getElem?_append,zfY]
   by_cases hi:i<σ.size
   ·rw [Zp hi,zl3 σ hi]
    have h7:=h6 i hi
    rw [zle _ hi,Nat.mul_one] at h7
    have h8:=(zd1 h7).2 0 (by omega)
    simpa [encU,memF] using h8
   ·rw [Zn hi,Array.getElem?_extract]
    by_cases hj:i<cur.size
    ·rw [Zp (by omega)]; congr 1; omega
    ·rw [Zn (by omega),Array.getElem?_eq_none (by omega)]
  show h g=some _
  rw [<-e]; exact h2
section
variable {P:Program} {w0:World} {R:Assn} {n:Nat} {Q:Exit->Act->World->Prop} {env:List (Nat×Value)} {L:List (Nat×Assn)}
variable {ks:List Nat} {L0:List (Nat×Assn)} {ops:Array Oper} {rest:List (Bool×Oper)}
theorem TL.ownM (k:Nat) {σ:Array UInt64} {e:Nat} {v:Value} (h0:0<σ.size) (hL:lk L k=some (ownA encU 1 e v ((List.range σ.size).map (memF σ)).toArray)) (hk:∀ g rs,Keep L0 ((k,pt g (.cells (encM σ++rs) e)) :: L) ks)
  (h:∀ g cap rs,v=.slice (some ⟨g,0,none⟩) σ.size cap->TL P w0 R n ks L0 ops Q rest env ((k,pt g (.cells (encM σ++rs) e)) :: L)):TL P w0 R n ks L0 ops Q rest env L:=fun a w ha hs hS=>by
 obtain ⟨X,hX,_,hto⟩:=Sat.some hs hL
 obtain ⟨g,cap,rs,h1,h2⟩:=zxV h0 hX
 exact h g cap rs h1 a w ha (hto _ h2) (SS.of (hto _ h2) (hk g rs))
end
section
variable {l:Lay} {σ:M} {k:LookS}
variable {c:ClimbS}
end
section
variable {l:Lay} {S:Type} [MemLike S] {σ:S}
theorem zxA (h:l.S=0):zio l σ=st σ l.free 0:=by unfold zio; rw [Zp h]
theorem zxz (h:l.S≠0):zio l σ=st (st (zeM l l.S σ) (l.of ((l.S:Int) - 1) 0) 0) l.free 1:=by unfold zio; rw [Zn h]
theorem zkU {dn:Nat} {fd:Nat->Int} {n:Nat} (h:0<dn):zf1 l P1 (zdI l dn fd n σ) ((n+1:Nat):Int) (fd ((n+1) % dn))=zdI l dn fd (n+1) σ:=by rw [zdI,Zn (by omega)]
theorem zj1 {dn:Nat} {fd:Nat->Int} {n:Nat} (h:dn=0):zf1 l P1 (zdI l dn fd n σ) ((n+1:Nat):Int) 0=zdI l dn fd (n+1) σ:=by rw [zdI,Zp h]
end
def AllD (l:Lay) (σ:M) (d:Array Int) (u v:Nat):Prop:=(∀ s:Int,(∃ j,j<d.size/\d[j]! =s)↔∃ a b:Int,(0<=a/\a<b/\b<l.V)/\(a<u\/a=u/\b<v)/\(find l σ a b).ok=true/\(find l σ a b).slot=s)
theorem AllD.edges {l:Lay} (hl:l.Ok) {σ:M} {g:G} (hE:EdgeOk l σ g) {d:Array Int} {u v:Nat} (h:AllD l σ d u v) (hu:l.V<=u+1) (s:Int):(∃ j,j<d.size/\d[j]! =s)↔g.has s=true:=by
 rw [h s]
 constructor
 ·rintro ⟨a,b,h1,h2,h3,h4⟩
  rcases hE.found hl (o:=⟨0,a,b⟩) ⟨by show a≠b; omega,by show 0<=a; omega,by show a<l.V; omega,by show 0<=b; omega,by show b<l.V; omega⟩ with ⟨q,hq,h5,h6,h7,_⟩ | ⟨_,h7⟩
  ·have h7:find l σ a b=_:=h7
   rw [h7] at h4; rw [<-h4]; exact h6
  ·have h7:find l σ a b=_:=h7
   rw [h7] at h3; cases h3
 ·intro hs
  have hr:=hE.rng s hs
  refine ⟨g.u s,g.v s,by omega,.inl (by omega),?_⟩
  rw [zn9 hl hE hs]; exact ⟨Z,Z⟩
section
variable {l:Lay} (hl:l.Ok) {p:Pen} (hp:PenOk p) {pr:Int->Int} {σ σ':M} {g g':G} {par0 ver0:Int->Int} {o:Op3}
include hl
include hp
end
section
variable {l:Lay} (hl:l.Ok) {σ:M} {g:G} {d:Array Int} {D:Array Bool}
include hl
theorem AllD.slot (hE:EdgeOk l σ g) (hA:AllD l σ d l.V (l.V+1)) {k:Nat} (hk:k<d.size):∃ z:Nat,d[k]! =(z:Int)/\z<l.S:=by
 have h1:=(hA.edges hl hE (by omega) (d[k]!)).1 ⟨k,hk,Z⟩
 have h2:=(hE.rng _ h1).1
 exact ⟨(d[k]!).toNat,by omega,by omega⟩
end
section
variable {l:Lay} {σ:M} {n:Nat}
end
section
variable {l:Lay} (hl:l.Ok) {pr:Int->Int} {σ σ1:M} {g g1:G}
include hl
theorem zqd:(1:Int)<=l.T:=by have:=hl.2.2.2.1; omega
omit hl in
theorem zz5:PenOk ⟨1,0⟩:=⟨by decide,by decide⟩
theorem Born.half (hB:Born l pr σ) (hW:Writ l pr ⟨1,0⟩ (parent l σ) (fun _=>0) σ1 g1) (hR:Rch l ⟨1,0⟩ σ σ1) :
  ∃ ver,Calm l pr ⟨1,1⟩ ver (za0 l ⟨1,0⟩ (ze4 l false l.nodes.toNat (za0 l ⟨1,0⟩ σ1 0 true)) 1 false) g1:=by
 have ht:=zqd hl
 obtain ⟨hC,ho⟩:=hW.commit hl (zz5) ht
 have hv:∀ x,V0 l x->gf l (za0 l ⟨1,0⟩ σ1 0 true) x 1=0:=fun x hx=>by
  have e1:gf l (za0 l ⟨1,0⟩ σ1 0 true) x 1=gf l σ1 x 1:=ho _ (by
   have h1:=zaL hl hx.1 (f:=1) (by decide)
   have h2:=zcD hl (t:=1) ⟨by decide,ht⟩
   have h3:l.state (⟨1,0⟩:Pen).thread=1 - 1:=h2
   have h4:=zb7 hl
   have h5:l.heads=l.T+1+l.S * 7:=rfl
   omega)
  rw [e1]
  have e2:gf l σ1 x 1=gf l σ x 1:=hR.other hl (.inr (.inr ⟨x,1,hx.1,.inr (.inl Z),Z⟩))
  rw [e2]; exact hB.ver x hx.1
 obtain ⟨h1,_⟩:=hC.clean hl (zz5) ht (by decide) false fun _ x hx=>by
  have e:gf l (za0 l ⟨1,0⟩ σ1 0 true) x 1=0:=hv x hx
  have e':gf l (za0 l ⟨1,0⟩ σ1 (⟨1,0⟩:Pen).tag true) x 1=0:=e
  rw [e']; exact zsb
 exact ⟨_,h1⟩
end
section
variable {l:Lay} (hl:l.Ok) {σ σ':M} {par rt:Int->Int} {c:ClimbS}
include hl
end
section
variable {l:Lay} (hl:l.Ok) {pr:Int->Int} {fo:Nat->Op3} {on:Nat} {σ1 σ2:M} {g1 g2:G} {ver:Int->Int}
include hl
end
section
variable {l:Lay} (hl:l.Ok) {pr:Int->Int} {fo:Nat->Op3} {on:Nat} {σ1 σ2 σ:M} {g1 g2 g:G} {ver par0 ver0:Int->Int} {p:Pen}
include hl
theorem Writ.wh (hW:Writ l pr p par0 ver0 σ g) {u v:Int}:Wh g u v↔Jn g 0 u v:=Wh.jn hW.hd fun q hq=>((hW.edges hl).rng q hq).2.2.1
theorem Writ.joined (hW:Writ l pr p par0 ver0 σ g) {u v:Int} (hu:0<=u/\u<l.V) (hv:0<=v/\v<l.V):∃ b,Go.Tm.same l 561 σ 0 u v=some (b,σ)/\(b=true↔Wh g u v):=by
 have lb:=zbz hl
 obtain ⟨b,h1,h2⟩:=hW.rt.same hl (i:=0) (u:=u) (v:=v) ⟨by omega,hu⟩ ⟨by omega,hv⟩ (k:=561) (by decide)
 exact ⟨b,h1,h2.trans (hW.wh hl).symm⟩
end
section
variable {l:Lay} (hl:l.Ok) {σ σ':M} {par rt:Int->Int} {c:ClimbS}
include hl
end
section
variable {l:Lay} (hl:l.Ok) {pr:Int->Int} {fo:Nat->Op3} {on:Nat} {σ1 σ2 σ:M} {g1 g2 g:G} {ver par0 ver0:Int->Int} {p:Pen}
include hl
end
section
variable {P:Program} {w0:World} {R:Assn} {n:Nat} {Q:Exit->Act->World->Prop} {env:List (Nat×Value)} {L:List (Nat×Assn)}
variable {ks:List Nat} {L0:List (Nat×Assn)} {ops:Array Oper} {rest:List (Bool×Oper)}
variable {d:Option Tmp} {x y:Operand} {ty T K E:TypeId} {ps:String} {af:Array Edge} {g:Option (Nat×Bool)}
variable {κ β:Type} [DecidableEq κ] {enc:κ->Value} {venc:β->Value}
theorem TL.lkD1 (k:Nat) {r:Nat} {qs:List (κ×β)} {q:κ} (z0:β) (hx:evO env x=some (.map (some r))) (hy:evO env y=some (enc q)) (hL:lk L k=some (mapA r enc venc qs)) (hM:zmO P T K E=true) (hK:KeyOk P K enc) (hz:zbI P E=some (venc z0)) (hg:zag ops env g=some true) (hd:okD n d=true) (hk:Keep L0 L ks)
  (h:TL P w0 R n ks L0 ops Q rest (setE env d (venc ((mget qs q).getD z0))) L):TL P w0 R n ks L0 ops Q ((false,⟨d,.lookup T x y false,ty,ps,af,g⟩) :: rest) env L :=
 TL.lkA k hx hy hL hM hK hz hg hd hk (by cases hq:mget qs q<;>(rw [hq] at h; exact h))
end
def intV (z:Int):Value:=.int .i64 z
def KpT (l:Lay) (n:Int) (z:Int):Prop:=∃ t:Int,(1<=t/\t<=n)/\z=l.state t
def KpN (l:Lay) (n:Int) (z:Int):Prop:=∃ x:Int,(1<=x/\x<=n)/\(l.node x).1.level=0/\(z=l.field x 2\/z=l.field x 1)
def Kp (qs:List (Int×Bool)) (P:Int->Prop):Prop:=∀ z,P z->mget qs z=some true
theorem KpT.zero {l:Lay}:Kp [] (KpT l 0):=fun z ⟨t,h,_⟩=>by omega
theorem KpN.zero {l:Lay} {z:Int} (h:KpN l 0 z):False:=by obtain ⟨x,h,_⟩:=h; omega
section
variable {l:Lay} (hl:l.Ok) {σ τ:M} {par rt:Int->Int}
include hl
end
section
variable {l:Lay} {σ:M} {c:CollectS} {n:Int}
def CollectS.mid (l:Lay) (σ:M) (n:Int) (c:CollectS):CollectS:=⟨c.u,c.v,zbK l c.u,⟨c.now.u,⟨(c.climb.stp l σ).root,(c.climb.stp l σ).version⟩,n⟩,c.last,false,c.done,c.rounds,IntKind.i64.wrap (c.steps+1)⟩
end
section
variable {l:Lay} {σ:M} {n:Nat} {p:Pen}
theorem zxT {k:Int} (hk:0<=k/\k<=60):PenOk ⟨1,k⟩:=⟨by show (1:Int)<=1/\(1:Int)<=8; decide,by show 0<=k/\k<=16777215; omega⟩
end
section
variable {l:Lay} (hl:l.Ok) {σ σ2:M} {p:Pen} (hp:PenOk p) {pr:Int->Int} {g g2:G}
include hl hp
end
section
variable {l:Lay} {σ:M} {c:CollectS} {n:Int} {par rt:Int->Int}
variable (hl:l.Ok)
include hl
end
section
variable {l:Lay} (hl:l.Ok) {σ σ2:M} {pr:Int->Int} {g g2:G} {k:Int}
include hl
theorem Born.calm0 (hB:Born l pr σ):Calm l pr ⟨1,0⟩ (fun _=>0) σ G0:=hB.calm hl (p:=⟨1,0⟩) ⟨by decide,zqd hl⟩ Z
end
section
variable {l:Lay} (hl:l.Ok) {σ σ2:M} {p:Pen} (hp:PenOk p) {pr:Int->Int} {g g2:G} {c:CollectS} {par rt par' rt':Int->Int}
def jf (d:Array Bool):Int->Bool:=fun i=>d[(i - 1).toNat]!
def PIv (l:Lay) (σ:M) (par rt:Int->Int) (kv K0:Int) (u v:Int) (now:Nat) (c:CollectS) (d:Array Bool):Prop :=
 ((∃ f e st,KInv l σ par rt kv K0 (jf d) f e st now c)/\d.size=now/\c.u=u/\c.v=v) \/
 (c.done=true/\(1<=c.point/\c.point<=d.size)/\c.joined=jf d c.point/\c.rounds<=2 * (kv - K0)+2/\d.size<=now)
theorem PIv.commit {kv K0 u v:Int} {now:Nat} {d:Array Bool} (h:PIv l σ par rt kv K0 u v now c d) (hf:c.done=false->zoH σ c.climb)
  (hw:∀ x f,V0 l x->(f=1\/f=2)->1<=(zae (gf l σ x f)).1.thread->zey (zae (gf l σ x f)).1 (get σ2 (l.state (zae (gf l σ x f)).1.thread))=zbe l σ2 (l.field x f)) (hk:kv+1<=1000000):PIv l σ2 par' rt' (kv+1) K0 u v now c d:=by
 rcases h with ⟨⟨f,e,st,hK⟩,h⟩ | ⟨h1,h2,h3,h4,h5⟩
 ·exact .inl ⟨⟨f,e,st,hK.commit (hf hK.nd) hw hk⟩,h⟩
 ·exact .inr ⟨h1,h2,h3,by omega,h5⟩
end
section
variable {l:Lay} (hl:l.Ok) {σ σ2:M} {pr:Int->Int} {g g2:G} {c:CollectS} {rt:Int->Int} {k K0 u v:Int} {now:Nat} {d:Array Bool}
include hl
theorem Calm.seen_ {ver:Int->Int} {p:Pen} (hC:Calm l pr p ver σ g):∃ rt,SeenF l σ (parent l σ) rt:=by
 obtain ⟨F,_,h2,_,_⟩:=hC.rt.rows hl
 exact ⟨fun x=>(F x).root,hC.seen hl fun x hx=>(h2 x hx).2⟩
theorem PIv.comm (hk:0<=k/\k<=60) {par:Int->Int} (hU:Upd l pr ⟨1,k⟩ par k σ2 g2) (h:PIv l σ2 par rt k K0 u v now c d) (hf:c.done=false->zoH σ2 c.climb) :
  Calm l pr ⟨1,k+1⟩ (fun _=>k+1) (zbX l ⟨1,k⟩ true σ2) g2/\∃ rt',SeenF l (zbX l ⟨1,k⟩ true σ2) (parent l (zbX l ⟨1,k⟩ true σ2)) rt'/\PIv l (zbX l ⟨1,k⟩ true σ2) (parent l (zbX l ⟨1,k⟩ true σ2)) rt' (k+1) K0 u v now c d:=by
 obtain ⟨h1,_,h3⟩:=hU.commit hl (zxT hk) (zqd hl) (by show k+1<=16777215; omega)
 obtain ⟨rt',hS'⟩:=h1.seen_ hl
 exact ⟨h1,rt',hS',h.commit hf h3 (by omega)⟩
end
def cpt (d:Array Int):Nat->List Int
 | 0=>[]
 | n+1=>if n=0\/d[n]!≠d[n - 1]! then cpt d n++[d[n]!] else cpt d n
theorem zv1 {d:Array Int} {n:Nat} (h:d[n]!≠d[n - 1]!):cpt d (n+1)=cpt d n++[d[n]!]:=by rw [cpt,Zp (.inr h)]
theorem zzA {d:Array Int} {n:Nat} (h0:n≠0) (h:d[n]! =d[n - 1]!):cpt d (n+1)=cpt d n:=by rw [cpt,Zn (by simp [h0,h])]
theorem zjY {d:Array Int}:cpt d 1=[d[0]!]:=by rw [cpt,Zp (.inl Z)]; rfl
structure CpA (d:Array Int) (k:Nat):Prop where
 len:(cpt d k).length=k
 eq:∀ j,j<k->(cpt d k)[j]! =d[j]!
theorem zpH {a:List Int} {x:Int} {j:Nat}:(a++[x])[j]! =if j<a.length then a[j]! else if j=a.length then x else 0:=by
 rw [List.getElem!_eq_getElem?_getD,List.getElem!_eq_getElem?_getD]
 by_cases h:j<a.length
 ·rw [Zp h,List.getElem?_append_left h]
 ·rw [Zn h,List.getElem?_append_right (by omega)]
  by_cases h2:j=a.length
  ·subst h2; simp
  ·rw [Zn h2,List.getElem?_eq_none (by simp; omega)]; rfl
theorem CpA.start {d:Array Int}:CpA d 1:=by
 refine ⟨by rw [zjY]; rfl,fun j hj=>?_⟩
 have:j=0:=by omega
 subst this; rw [zjY]; rfl
theorem CpA.step {d:Array Int} {k:Nat} (h:CpA d k) (hne:d[k]!≠d[k - 1]!):CpA d (k+1):=by
 refine ⟨by rw [zv1 hne,List.length_append,h.len]; rfl,fun j hj=>?_⟩
 rw [zv1 hne,zpH,h.len]
 by_cases hc:j<k
 ·rw [Zp hc]; exact h.eq j hc
 ·rw [Zn hc,Zp (by omega)]; congr 1; omega
theorem CpA.all {d:Array Int} (h:CpA d d.size):d.toList=cpt d d.size:=by
 refine List.ext_getElem? fun i=>?_
 by_cases hi:i<d.size
 ·have h1:=h.eq i hi
  rw [List.getElem!_eq_getElem?_getD,List.getElem?_eq_getElem (by rw [h.len]; exact hi)] at h1
  rw [List.getElem?_eq_getElem (by simpa using hi),List.getElem?_eq_getElem (by rw [h.len]; exact hi)]
  simp only [Option.getD_some] at h1
  rw [h1,getElem!_pos d i hi,Array.getElem_toList]
 ·rw [List.getElem?_eq_none (by simp; omega),List.getElem?_eq_none (by rw [h.len]; omega)]
structure CpI (d:Array Int) (k0 k k2:Nat) (D:Array Int):Prop where
 sz:D.size=d.size
 le:1<=k/\k+1<=k0+k2/\1<=k2/\1<=k0
 old:∀ j,k0+k2 - 1<=j->D[j]! =d[j]!
 len:(cpt d (k0+k2)).length=k
 eq:∀ j,j<k->D[j]! =(cpt d (k0+k2))[j]!
theorem CpI.start {d:Array Int} {k:Nat} (h:CpA d k) (hk:1<=k) (he:d[k]! =d[k - 1]!):CpI d k k 1 d :=
 ⟨Z,by omega,fun _ _=>Z,by rw [zzA (by omega) he,h.len],fun j hj=>by rw [zzA (by omega) he,h.eq j hj]⟩
theorem set_get! {D:Array Int} {k j:Nat} {v:Int} (hk:k<D.size):(D.setIfInBounds k v)[j]! =if j=k then v else D[j]!:=by
 rw [getElem!_def,getElem!_def,Array.getElem?_setIfInBounds]
 by_cases h:k=j
 ·subst h; rw [Zp Z,Zp Z,Zp hk]
 ·rw [Zn h,Zn (fun e=>h e.symm)]
theorem CpI.yes {d:Array Int} {k0 k k2:Nat} {D:Array Int} (h:CpI d k0 k k2 D) (hn:k0+k2<d.size) (hne:D[k0+k2]!≠D[k0+k2 - 1]!):CpI d k0 (k+1) (k2+1) (D.setIfInBounds k D[k0+k2]!):=by
 have hle:=h.le
 have e1:=h.old (k0+k2) (by omega)
 have e2:=h.old (k0+k2 - 1) (by omega)
 rw [e1,e2] at hne
 have hD:k<D.size:=by rw [h.sz]; omega
 refine ⟨by simp [h.sz],by omega,fun j hj=>?_,?_,fun j hj=>?_⟩
 ·rw [set_get! hD,Zn (by omega)]; exact h.old j (by omega)
 ·rw [<-Nat.add_assoc,zv1 hne,List.length_append,h.len]; rfl
 ·rw [set_get! hD,<-Nat.add_assoc,zv1 hne,zpH,h.len]
  by_cases hc:j=k
  ·rw [Zp hc,Zn (by omega),Zp hc,e1]
  ·rw [Zn hc,Zp (by omega)]; exact h.eq j (by omega)
theorem CpI.no {d:Array Int} {k0 k k2:Nat} {D:Array Int} (h:CpI d k0 k k2 D) (he:D[k0+k2]! =D[k0+k2 - 1]!):CpI d k0 k (k2+1) D:=by
 have hle:=h.le
 have e1:=h.old (k0+k2) (by omega)
 have e2:=h.old (k0+k2 - 1) (by omega)
 rw [e1,e2] at he
 have e3:cpt d (k0+(k2+1))=cpt d (k0+k2):=by rw [<-Nat.add_assoc,zzA (by omega) he]
 exact ⟨h.sz,by omega,fun j hj=>h.old j (by omega),by rw [e3]; exact h.len,fun j hj=>by rw [e3]; exact h.eq j hj⟩
theorem CpI.fin {d:Array Int} {k0 k k2:Nat} {D:Array Int} (h:CpI d k0 k k2 D) (hn:k0+k2=d.size):(D.extract 0 k).size=k/\(D.extract 0 k).toList=cpt d d.size:=by
 have hle:=h.le
 have hs:(D.extract 0 k).size=k:=by rw [Array.size_extract,h.sz]; omega
 refine ⟨hs,List.ext_getElem? fun i=>?_⟩
 have hlen:=h.len
 have heq:=h.eq
 rw [hn] at hlen heq
 by_cases hi:i<k
 ·have h1:=heq i hi
  have hsz:=h.sz
  rw [List.getElem!_eq_getElem?_getD,List.getElem?_eq_getElem (by rw [hlen]; exact hi),getElem!_pos D i (by omega)] at h1
  rw [List.getElem?_eq_getElem (by rw [Array.length_toList,hs]; exact hi),List.getElem?_eq_getElem (by rw [hlen]; exact hi)]
  simp only [Option.getD_some] at h1
  rw [<-h1,Array.getElem_toList,Array.getElem_extract]
  congr 2; omega
 ·rw [List.getElem?_eq_none (by rw [Array.length_toList,hs]; omega),List.getElem?_eq_none (by rw [hlen]; omega)]
theorem zzB {d:Array Int} {n:Nat} (hs:d.size=n) (h:n<2):d.toList=cpt d n:=by
 have:n=0\/n=1:=by omega
 rcases this with rfl | rfl
 ·rw [Array.eq_empty_of_size_eq_zero hs]; rfl
 ·rw [zjY]
  refine List.ext_getElem? fun i=>?_
  by_cases hi:i=0
  ·subst hi; rw [List.getElem?_eq_getElem (by simp; omega),getElem!_pos d 0 (by omega)]; rfl
  ·rw [List.getElem?_eq_none (by simp; omega),List.getElem?_eq_none (by simp; omega)]
theorem zzz {a b:Int}:(cpt #[min a b,max a b] 2).toArray=zaw a b:=by
 rw [cpt]
 unfold zaw
 by_cases h:a=b
 ·subst h
  rw [Zn (by simp),zjY,Zp Z]; simp
 ·rw [Zp (.inr (by show max a b≠min a b; omega)),zjY,Zn h]; rfl
def rowS (v:Value) (d:Array Int):Assn:=fun h=>∃ a b off c,v=.slice a d.size c/\d.size<=c/\(0<d.size->a=some ⟨b,off,none⟩)/\rowW encI 1 b off d.size d h
theorem za2:rowS (.slice none 0 0) #[] fun _=>none:=⟨none,0,0,0,Z,Nat.le_refl _,fun h=>absurd h (Nat.lt_irrefl 0),.inl Z⟩
section
variable {P:Program} {w0:World} {R:Assn} {n:Nat} {Q:Exit->Act->World->Prop} {env:List (Nat×Value)} {L:List (Nat×Assn)} {ks:List Nat} {L0:List (Nat×Assn)} {ops:Array Oper} {rest:List (Bool×Oper)}
theorem TC.rowS {x:Code} (k:Nat) {v:Value} {d:Array Int} (hL:lk L k=some (Go.Tm.rowS v d)) (h:∀ a b off c,v=.slice a d.size c->d.size<=c->(0<d.size->a=some ⟨b,off,none⟩)->TC P w0 R n x Q env ((k,rowW encI 1 b off d.size d) :: L)):TC P w0 R n x Q env L:=fun a w ha hs=>by
 obtain ⟨X,hX,_,hto⟩:=Sat.some hs hL
 obtain ⟨a',b,off,c,h1,h2,h3,h4⟩:=hX
 exact h a' b off c h1 h2 h3 a w ha (hto _ h4)
theorem TL.rowS (k:Nat) {v:Value} {d:Array Int} (hL:lk L k=some (Go.Tm.rowS v d)) (h:∀ a b off c,v=.slice a d.size c->d.size<=c->(0<d.size->a=some ⟨b,off,none⟩)->Keep L0 ((k,rowW encI 1 b off d.size d) :: L) ks/\TL P w0 R n ks L0 ops Q rest env ((k,rowW encI 1 b off d.size d) :: L)):TL P w0 R n ks L0 ops Q rest env L:=fun a w ha hs hS=>by
 obtain ⟨X,hX,_,hto⟩:=Sat.some hs hL
 obtain ⟨a',b,off,c,h1,h2,h3,h4⟩:=hX
 obtain ⟨hk,h⟩:=h a' b off c h1 h2 h3
 exact h a w ha (hto _ h4) (SS.of (hto _ h4) hk)
end
theorem znI {a:Option Addr} {b off m c:Nat} {d:Array Int} (hm:d.size=m) (hc:m<=c) (ha:0<m->a=some ⟨b,off,none⟩) {h:HF} (hr:rowW encI 1 b off m d h):rowS (.slice a m c) d h:=by
 subst hm; exact ⟨a,b,off,c,Z,hc,ha,hr⟩
theorem zev {e:Nat} {v:Value} {d:Array Int} {h:HF} (ho:ownA encI 1 e v d h):rowS v d h:=by
 obtain ⟨a,b,c,h1,h2,h3,h4⟩:=zjk ho
 exact ⟨a,b,0,c,h1,h2,h3,h4⟩
theorem zvu {b e:Nat} {x y:Int} {h:HF} (hp:pt b (.cells #[.int .i64 x,.int .i64 y] e) h):ownA encI 1 e (.slice (some ⟨b,0,none⟩) 2 2) #[x,y] h :=
 .inr ⟨b,2,_,Z,hp,Nat.le_refl _,(by decide),Z,fun i hi=>by
  have:i=0\/i=1:=by simp at hi; omega
  rcases this with rfl | rfl<;>rfl⟩
section
variable {l:Lay} {σ:M} {t:TakeS}
end
section
variable {w0 w:World} {R:Assn} {A B C:Assn} {Cs:List Assn}
theorem Sat.rot3 (h:Sat w0 (lab 0 (A :: B :: C :: Cs)) R w):Sat w0 (lab 0 (C :: A :: B :: Cs)) R w:=by
 refine h.back (ks:=2 :: 0 :: 1 :: List.range' 3 Cs.length) (zfN ?_) (zmW (by simp) fun t k hk=>?_)
 ·simp only [List.nodup_cons,List.mem_cons,List.mem_range'_1,not_or]
  exact ⟨⟨by omega,by omega,by omega⟩,⟨by omega,by omega⟩,by omega,List.nodup_range'⟩
 ·match t with
  | 0=>cases hk; rw [za5]; rfl
  | 1=>cases hk; rw [za5]; rfl
  | 2=>cases hk; rw [za5]; rfl
  | t+3 =>
   obtain ⟨h2,rfl⟩:=ziA (s:=3) (n:=Cs.length) (t:=t) (by simpa using hk)
   rw [za5,Nat.add_comm 3 t]; rfl
theorem Sat.headH (h:Sat w0 (lab 0 (A :: Cs)) R w):∃ g,A g/\∀ B,B g->Sat w0 (lab 0 (B :: Cs)) R w:=by
 obtain ⟨X,hX,_,hto⟩:=Sat.some h (k:=0) (A:=A) (by rw [za5]; rfl)
 refine ⟨X,hX,fun B hB=>(hto B hB).weaken fun j D hD=>?_⟩
 rw [za5] at hD
 rw [zaG]
 match j with
 | 0=>rw [Zp Z]; exact hD
 | j+1=>rw [Zn (by omega),za5]; exact hD
end
section
variable {P:Program} {f:FuncId} {args:List Value} {T T1 T2 E:TypeId} {tb:Nat} {l:Lay} {t:TakeS} {Cs:List Assn} {Ψ:Value->List Assn->Prop}
end
theorem zxI {d:Array Int} {n:Nat} (h:d.size=n):((List.range n).map fun i=>d[i]!).toArray=d:=by
 subst h
 refine Array.ext (by simp) fun i h1 h2=>?_
 rw [List.getElem_toArray,List.getElem_map,List.getElem_range,getElem!_pos d i h2]
structure Op2 where
 u:Int
 v:Int
 deriving Inhabited,DecidableEq
def lkN (l:Lay):Nat->M->M
 | 0,σ=>σ
 | n+1,σ=>st (if zbJ l ((n+1:Nat):Int) then zbs (lkN l n σ) (l.field ((n+1:Nat):Int) 2) else lkN l n σ) (l.field ((n+1:Nat):Int) 0) 65535
section
variable {l:Lay} (hl:l.Ok) {σ τ σ1:M} {p:Pen} {pr:Int->Int} {g g1:G} {par rt:Int->Int}
include hl
theorem zau.rootS (hR:zau l pr σ g) (hp:∀ x,V0 l x->parent l σ x=par x) (hS:∀ x,V0 l x->∃ h:Nat,Up par (V0 l) h x (rt x)) {x:Int} (hx:V0 l x) {k:Nat} (hk:560<k):Go.Tm.root l k σ x=some (rt x,σ):=by
 obtain ⟨F,mk,L,hI⟩:=hR
 have hF:=hI.lm.forest
 rw [hF.root hl hx.1 hk]
 obtain ⟨h,_,h2⟩:=hF.up hl hx.1
 have lb:=zbz hl
 have hT:=hI.tours 0 (by omega)
 have hv:∀ y∈(F x).list,V0 l y:=fun y hy=>⟨(hF.rep x hx.1).nd y hy,decide_eq_true (hT.lev x hx.1 (of_decide_eq_true hx.2) y hy)⟩
 obtain ⟨h',h3⟩:=hS x hx
 have h4:=h2.mono hv
 rw [(h4.uniq (h3.congr hp)).2]
end
structure EndOk (V:Int) (x:Op2):Prop where
 u:0<=x.u/\x.u<V
 v:0<=x.v/\x.v<V
instance {V:Int} {x:Op2}:Decidable (EndOk V x):=decidable_of_iff ((0<=x.u/\x.u<V)/\0<=x.v/\x.v<V) ⟨fun h=>⟨h.1,h.2⟩,fun h=>⟨h.1,h.2⟩⟩
theorem zgT {a b:Int}:(zaw a b).size<=2:=by rw [ze8]; split<;>decide
section
variable {l:Lay} (hl:l.Ok) {σ:M} {pr par rt:Int->Int} {t:TakeS} {g:G}
include hl
end
section
variable {l:Lay} (hl:l.Ok) {σ σ':M} {par rt:Int->Int} {n r p:Nat} {got:Int} {ts tr:Nat->TakeS} {D:Array Bool} {B:Int} {t:TakeS}
include hl
end
section
variable {l:Lay} (hl:l.Ok) {σ σ0 σ':M} {pr par rt:Int->Int} {t t0 s:TakeS} {n0 c:Cnt} {N k h j:Nat}
include hl
end
end Go.Tm
